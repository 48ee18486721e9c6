import PyProof.Rows.All
import Wide.All
import OpenK.AllK
import Wide.FinOn
import HandS.ForMost
import HandS.Evl
import KE.GoesNew
import HandS.IsInst
import HandS.TupAny
import HandS.Wide
import HandS.Ends
import PyProof.Rows.ReprR
import HandS.Text
import HandS.SortInts
import HandS.TupMul
import PyProof.ReprBulk
import PyProof.Rows.ReprShort
import HandS.TupLe
import PyProof.P3Eq
import HandS.Rev
import KE.GoesMore
import HandS.Conv
import HandS.More
import PyProof.StrOps2
import KE.KDictDisplayH
import PyProof.DictMoreH
import HandS.SortRule
import HandS.Iter
import HandS.TryOnly
import KE.KDictKeyed
import KE.DataMinMax
import HandS.Zip
import HandS.Deep
import HandS.TupLen
import KE.DataCmp
import HandS.SetFor
import HandS.Strs
import HandS.Style
import HandS.SortOrd
import KE.SortData
import KE.BitLaws
import PyProof.ZipIter
import PySem.Challenge.RW_opencells_k09_whole_long_rows
set_option Elab.async false
set_option autoImplicit false
set_option linter.all false
set_option maxRecDepth 100000
set_option maxHeartbeats 4000000
/-! Own layer, part 1: data as values (D), mutable cells (Mu), and a calculus of weakest preconditions over HandS. -/
namespace Oc
open PySem PySem.Spec L2
open Evl (Ex)

inductive D where
  | non | bl (b : Bool) | int (i : Int) | str (x : Str) | tup (l : List D) | tpl (l : List D) | lst (l : List D) | scr (l : List D) | ptr (a : Addr) | ty (n : String) | dct (ks : List (List Key)) (vs : List D)
/-- the content of a mutable cell -/
inductive MO where
  | lst (l : List D) | dk (l : List (Key × D)) | dt (l : List (List Key × D)) | la (P : List D → Prop) | ka (P : List (Key × D) → Prop) | exc (C : Addr) (ks : List Str) (vs : List D)
/-- the written part, and the ground: what stands still since the def began -/
structure KF where
  k : PySem.W.Frag
  g : Hp
instance : Coe KF PySem.W.Frag := ⟨KF.k⟩
/-- a context with its ground -/
structure Cy where
  c : Cx
  g : Hp
instance : Coe Cy Cx := ⟨Cy.c⟩
namespace Cy
abbrev K (X : Cy) : KF := ⟨X.c.K, X.g⟩
abbrev prog (X : Cy) := X.c.prog
abbrev w (X : Cy) := X.c.w
abbrev mg (X : Cy) := X.c.mg
abbrev base (X : Cy) := X.c.base
abbrev A (X : Cy) := X.c.A
abbrev N (X : Cy) := X.c.N
abbrev s_0 (X : Cy) := X.c.s_0
abbrev H_0 (X : Cy) := X.c.H_0
abbrev env (X : Cy) := X.c.env
abbrev outer (X : Cy) := X.c.outer
abbrev stack (X : Cy) := X.c.stack
abbrev ex (X : Cy) := X.c.ex
abbrev fn (X : Cy) := X.c.fn
abbrev calm (X : Cy) := X.c.calm
abbrev pn (X : Cy) := X.c.pn
abbrev xe (X : Cy) := X.c.xe
abbrev fs (X : Cy) := X.c.fs
end Cy
abbrev Rho := List (Option D)
abbrev Mu := List (Addr × MO)

mutual
inductive Rep (K : PySem.W.Frag) (F : Hp) : V → D → Prop
  | non : Rep K F .non .non
  | bl (b : Bool) : Rep K F (.bl b) (.bl b)
  | int (i : Int) : Rep K F (.int i) (.int i)
  | str (x : Str) : Rep K F (.str x) (.str x)
  | tup {a : Addr} {xs : List V} {ds : List D} : F a = some (.tup xs) → Reps K F xs ds → Rep K F (.ref a) (.tup ds)
  | tpl {a : Addr} {o : Obj} {xs : List V} {ds : List D} : F a = some (.frz o (.tup xs)) → o.cls = .type "tuple" → o.dict = none → Reps K F xs ds → Rep K F (.ref a) (.tpl ds)
  | lst {a : Addr} {xs : List V} {ds : List D} : F a = some (.lst xs) → Reps K F xs ds → Rep K F (.ref a) (.lst ds)
  | scr {a : Addr} {xs : List V} {ds : List D} : SqL K F a xs → Reps K F xs ds → Rep K F (.ref a) (.scr ds)
  | ty (n : String) : Rep K F (.ty n) (.ty n)
  | ptr (a : Addr) : Rep K F (.ref a) (.ptr a)
  | dct {a : Addr} {o : Obj} {kvs : List (List Key × V)} {ks : List (List Key)} {vs : List D} : F a = some (.frz o (.dT kvs)) → kvs.map (·.1) = ks → Reps K F (kvs.map (·.2)) vs → Rep K F (.ref a) (.dct ks vs)
inductive Reps (K : PySem.W.Frag) (F : Hp) : List V → List D → Prop
  | nil : Reps K F [] []
  | cons {v : V} {vs : List V} {d : D} {ds : List D} : Rep K F v d → Reps K F vs ds → Reps K F (v :: vs) (d :: ds)
end
section
variable {K : PySem.W.Frag} {F F' H H' : Hp}
mutual
theorem Rep.mono (e : Ex F F') : ∀ {v : V} {d : D}, Rep K F v d → Rep K F' v d
  | _, _, .non => .non
  | _, _, .bl b => .bl b
  | _, _, .int i => .int i
  | _, _, .str x => .str x
  | _, _, .tup h r => .tup (e _ _ h) (Reps.mono e r)
  | _, _, .tpl h c n r => .tpl (e _ _ h) c n (Reps.mono e r)
  | _, _, .lst h r => .lst (e _ _ h) (Reps.mono e r)
  | _, _, .scr h r => .scr (Evl.ex_l e h) (Reps.mono e r)
  | _, _, .ty n => .ty n
  | _, _, .ptr a => .ptr a
  | _, _, .dct h e2 r => .dct (e _ _ h) e2 (Reps.mono e r)
theorem Reps.mono (e : Ex F F') : ∀ {v : List V} {d : List D}, Reps K F v d → Reps K F' v d
  | _, _, .nil => .nil
  | _, _, .cons h r => .cons (Rep.mono e h) (Reps.mono e r)
end
theorem Reps.length : ∀ {v : List V} {d : List D}, Reps K F v d → v.length = d.length
  | _, _, .nil => rfl
  | _, _, .cons _ r => congrArg (· + 1) (Reps.length r)
theorem Reps.get : ∀ {v : List V} {d : List D} {i : Nat} {x : D}, Reps K F v d → d[i]? = some x → ∃ y, v[i]? = some y ∧ Rep K F y x
  | _, _, _, _, .nil, h => by simp at h
  | _, _, 0, _, .cons h _, e => by simp at e; subst e; exact ⟨_, rfl, h⟩
  | _, _, i + 1, x, .cons _ r, e => by
    obtain ⟨y, h1, h2⟩ := Reps.get (i := i) (x := x) r (by simpa using e)
    exact ⟨y, by simpa using h1, h2⟩
theorem Reps.getV : ∀ {v : List V} {d : List D} {i : Nat} {y : V}, Reps K F v d → v[i]? = some y → ∃ x, d[i]? = some x ∧ Rep K F y x
  | _, _, _, _, .nil, h => by simp at h
  | _, _, 0, _, .cons h _, e => by simp at e; subst e; exact ⟨_, rfl, h⟩
  | _, _, i + 1, x, .cons _ r, e => by
    obtain ⟨y, h1, h2⟩ := Reps.getV (i := i) (y := x) r (by simpa using e)
    exact ⟨y, by simpa using h1, h2⟩
theorem Reps.append : ∀ {v w : List V} {d e : List D}, Reps K F v d → Reps K F w e → Reps K F (v ++ w) (d ++ e)
  | _, _, _, _, .nil, s => s
  | _, _, _, _, .cons r t, s => .cons r (Reps.append t s)
theorem Reps.one {v : V} {d : D} (h : Rep K F v d) : Reps K F [v] [d] := .cons h .nil
theorem Reps.take : ∀ {v : List V} {d : List D} (n : Nat), Reps K F v d → Reps K F (v.take n) (d.take n)
  | _, _, 0, _ => .nil
  | _, _, _ + 1, .nil => .nil
  | _, _, n + 1, .cons r t => .cons r (Reps.take n t)
theorem Reps.drop : ∀ {v : List V} {d : List D} (n : Nat), Reps K F v d → Reps K F (v.drop n) (d.drop n)
  | _, _, 0, r => r
  | _, _, _ + 1, .nil => .nil
  | _, _, n + 1, .cons _ t => Reps.drop n t
theorem Reps.set {x : V} {u : D} (r : Rep K F x u) : ∀ {xs : List V} {us : List D} (i : Nat), Reps K F xs us → Reps K F (xs.set i x) (us.set i u)
  | _, _, _, .nil => .nil
  | _, _, 0, .cons _ t => .cons r t
  | _, _, i + 1, .cons q t => .cons q (Reps.set r i t)
theorem Reps.reverse {v : List V} {d : List D} (h : Reps K F v d) : Reps K F v.reverse d.reverse := by
  induction d generalizing v with
  | nil => cases h; exact .nil
  | cons a l ih => cases h with | cons h r => rw [List.reverse_cons, List.reverse_cons]; exact (ih r).append (.one h)
theorem reps_map {α : Type} {f : α → V} {g : α → D} (h : ∀ a, Rep K F (f a) (g a)) : ∀ l : List α, Reps K F (l.map f) (l.map g)
  | [] => .nil
  | a :: l => .cons (h a) (reps_map h l)
/-- what a list of known kind is -/
theorem reps_ints : ∀ {vs : List V} {ns : List Int}, Reps K F vs (ns.map D.int) → vs = ns.map V.int
  | _, [], .nil => rfl
  | _, n :: ns, .cons h r => by
    cases h
    rw [List.map_cons, ← reps_ints r]
theorem reps_strs : ∀ {vs : List V} {ns : List Str}, Reps K F vs (ns.map D.str) → vs = ns.map V.str
  | _, [], .nil => rfl
  | _, n :: ns, .cons h r => by
    cases h
    rw [List.map_cons, ← reps_strs r]
theorem reps_bools : ∀ {vs : List V} {ns : List Bool}, Reps K F vs (ns.map D.bl) → vs = ns.map V.bl
  | _, [], .nil => rfl
  | _, n :: ns, .cons h r => by
    cases h
    rw [List.map_cons, ← reps_bools r]

def RepK {κ : Type} (K : PySem.W.Frag) (F : Hp) : List (κ × D) → List (κ × V) → Prop := Paired fun p q => p.1 = q.1 ∧ Rep K F q.2 p.2
theorem RepK.mono {κ : Type} (e : Ex F F') {ds : List (κ × D)} {kvs : List (κ × V)} (h : RepK K F ds kvs) : RepK K F' ds kvs := Paired.mapP h fun _ _ z => ⟨z.1, z.2.mono e⟩
inductive RepO (K : PySem.W.Frag) (F : Hp) : MO → HO → Prop
  | lst {ds : List D} {xs : List V} : Reps K F xs ds → RepO K F (.lst ds) (.lst xs)
  | dk {ds : List (Key × D)} {kvs : List (Key × V)} : RepK K F ds kvs → RepO K F (.dk ds) (.dK kvs)
  | dt {ds : List (List Key × D)} {kvs : List (List Key × V)} : RepK K F ds kvs → RepO K F (.dt ds) (.dT kvs)
  | la {P : List D → Prop} {ds : List D} {xs : List V} : P ds → Reps K F xs ds → RepO K F (.la P) (.lst xs)
  | ka {P : List (Key × D) → Prop} {ds : List (Key × D)} {kvs : List (Key × V)} : P ds → RepK K F ds kvs → RepO K F (.ka P) (.dK kvs)
  | exc {C : Addr} {o : Obj} {u : HO} {fs : Array Value} : o.cls = .ref C → o.dict = none → o.data = .fields fs → RepO K F (.exc C [] []) (.frz o u)
  | excF {C d : Addr} {o : Obj} {u : HO} {fs : Array Value} {kvs : List (Str × V)} {ks : List Str} {vs : List D} : o.cls = .ref C → o.dict = some d → o.data = .fields fs → F d = some (.xd kvs) → kvs.map (·.1) = ks → Reps K F (kvs.map (·.2)) vs → ks ≠ [] → RepO K F (.exc C ks vs) (.frz o u)
theorem RepO.mono (e : Ex F F') {o : MO} {u : HO} (h : RepO K F o u) : RepO K F' o u := by
  cases h with
  | lst r => exact .lst (r.mono e)
  | dk r => exact .dk (r.mono e)
  | dt r => exact .dt (r.mono e)
  | la p r => exact .la p (r.mono e)
  | ka p r => exact .ka p (r.mono e)
  | exc h1 h2 h3 => exact .exc h1 h2 h3
  | excF h1 h2 h3 h4 e2 r ne => exact .excF h1 h2 h3 (e _ _ h4) e2 (r.mono e) ne

/-- the heap H: F stands still, the cells of μ may change -/
structure Hs (K : KF) (F : Hp) (μ : Mu) (H : Hp) : Prop where
  ex : Ex F H
  nd : (μ.map (·.1)).Nodup
  mu : ∀ a o, (a, o) ∈ μ → F a = none ∧ ∃ u, H a = some u ∧ RepO K F o u
  gr : Ex K.g F
/-- the slots -/
structure Sl (K : PySem.W.Frag) (F : Hp) (ρ : Rho) (σ : St) : Prop where
  len : ρ.length = σ.length
  at_ : ∀ (i : Nat) (d : D), ρ[i]? = some (some d) → ∃ v, σ[i]? = some (some v) ∧ Rep K F v d
variable {μ : Mu} {ρ : Rho} {σ : St}
theorem Sl.mono (e : Ex F F') (s : Sl K F ρ σ) : Sl K F' ρ σ := ⟨s.len, fun i d h => by
  obtain ⟨v, h1, h2⟩ := s.at_ i d h
  exact ⟨v, h1, h2.mono e⟩⟩
theorem Sl.set {v : V} {d : D} (s : Sl K F ρ σ) (i : Nat) (r : Rep K F v d) : Sl K F (ρ.set i (some d)) (σ.set i (some v)) := ⟨by rw [List.length_set, List.length_set]; exact s.len, fun j e h => by
  by_cases hj : i = j
  · subst hj
    by_cases hl : i < ρ.length
    · rw [List.getElem?_set_self hl] at h
      rw [List.getElem?_set_self (by rw [← s.len]; exact hl)]
      cases h
      exact ⟨v, rfl, r⟩
    · rw [List.getElem?_eq_none (by rw [List.length_set]; omega)] at h
      cases h
  · rw [List.getElem?_set_ne hj] at h ⊢
    exact s.at_ j e h⟩
theorem Sl.wipe (s : Sl K F ρ σ) (i : Nat) : Sl K F (ρ.set i none) (σ.set i none) := ⟨by rw [List.length_set, List.length_set]; exact s.len, fun j e h => by
  by_cases hj : i = j
  · subst hj
    by_cases hl : i < ρ.length
    · rw [List.getElem?_set_self hl] at h
      cases h
    · rw [List.getElem?_eq_none (by rw [List.length_set]; omega)] at h
      cases h
  · rw [List.getElem?_set_ne hj] at h ⊢
    exact s.at_ j e h⟩
theorem Sl.forget (s : Sl K F ρ σ) (i : Nat) : Sl K F (ρ.set i none) σ := ⟨by rw [List.length_set]; exact s.len, fun j e h => by
  by_cases hj : i = j
  · subst hj
    by_cases hl : i < ρ.length
    · rw [List.getElem?_set_self hl] at h
      cases h
    · rw [List.getElem?_eq_none (by rw [List.length_set]; omega)] at h
      cases h
  · rw [List.getElem?_set_ne hj] at h
    exact s.at_ j e h⟩
end
section
variable {K : KF} {F F' H H' : Hp} {μ : Mu} {ρ : Rho} {σ : St}
theorem mem_of_get {α : Type} {l : List α} {i : Nat} {x : α} (h : l[i]? = some x) : x ∈ l := List.mem_of_getElem? h
theorem Hs.at_ (h : Hs K F μ H) {i : Nat} {p : Addr} {o : MO} (e : μ[i]? = some (p, o)) : F p = none ∧ ∃ u, H p = some u ∧ RepO K F o u := h.mu p o (mem_of_get e)
theorem Hs.lst (h : Hs K F μ H) {i : Nat} {p : Addr} {ds : List D} (e : μ[i]? = some (p, .lst ds)) : ∃ xs, H p = some (.lst xs) ∧ Reps K F xs ds := by
  obtain ⟨_, u, h1, h2⟩ := h.at_ e
  cases h2 with
  | lst r => exact ⟨_, h1, r⟩
theorem Hs.dk (h : Hs K F μ H) {i : Nat} {p : Addr} {ds : List (Key × D)} (e : μ[i]? = some (p, .dk ds)) : ∃ kvs, H p = some (.dK kvs) ∧ RepK K F ds kvs := by
  obtain ⟨_, u, h1, h2⟩ := h.at_ e
  cases h2 with
  | dk r => exact ⟨_, h1, r⟩
theorem Hs.dt (h : Hs K F μ H) {i : Nat} {p : Addr} {ds : List (List Key × D)} (e : μ[i]? = some (p, .dt ds)) : ∃ kvs, H p = some (.dT kvs) ∧ RepK K F ds kvs := by
  obtain ⟨_, u, h1, h2⟩ := h.at_ e
  cases h2 with
  | dt r => exact ⟨_, h1, r⟩
/-- the still part grows where H has it -/
theorem Hs.still (h : Hs K F μ H) {p : Addr} {u : HO} (hp : F p = none) (hu : H p = some u) (hm : ∀ o, (p, o) ∉ μ) : Hs K (upd F p u) μ H ∧ Ex F (upd F p u) := by
  have e : Ex F (upd F p u) := Ex.new hp
  refine ⟨⟨fun a o q => ?_, h.nd, fun a o q => ?_, h.gr.trans e⟩, e⟩
  · by_cases ha : a = p
    · subst ha; rw [upd_same] at q; cases q; exact hu
    · rw [upd_ne ha] at q; exact h.ex a o q
  · obtain ⟨h1, w, h2, h3⟩ := h.mu a o q
    have ha : a ≠ p := fun z => by subst z; exact hm o q
    exact ⟨by rw [upd_ne ha]; exact h1, w, h2, h3.mono e⟩
theorem Hs.fresh (h : Hs K F μ H) {p : Addr} (hp : H p = none) : F p = none ∧ ∀ o, (p, o) ∉ μ := ⟨Evl.fresh_back h.ex hp, fun o q => by
  obtain ⟨_, w, h2, _⟩ := h.mu p o q
  rw [hp] at h2; cases h2⟩
/-- a new object that stands still -/
theorem Hs.laid (h : Hs K F μ H) {p : Addr} {u : HO} (hp : H p = none) : Hs K (upd F p u) μ (upd H p u) ∧ Ex F (upd F p u) := by
  obtain ⟨h1, h2⟩ := h.fresh hp
  have e : Ex F (upd F p u) := Ex.new h1
  refine ⟨⟨fun a o q => ?_, h.nd, fun a o q => ?_, h.gr.trans e⟩, e⟩
  · by_cases ha : a = p
    · subst ha; rw [upd_same] at q ⊢; exact q
    · rw [upd_ne ha] at q ⊢; exact h.ex a o q
  · obtain ⟨h3, w, h4, h5⟩ := h.mu a o q
    have ha : a ≠ p := fun z => by subst z; exact h2 o q
    exact ⟨by rw [upd_ne ha]; exact h3, w, by rw [upd_ne ha]; exact h4, h5.mono e⟩
/-- a new cell -/
theorem Hs.cell (h : Hs K F μ H) {p : Addr} {u : HO} {o : MO} (hp : H p = none) (r : RepO K F o u) : Hs K F ((p, o) :: μ) (upd H p u) := by
  obtain ⟨h1, h2⟩ := h.fresh hp
  refine ⟨h.ex.trans (Ex.new hp), ?_, fun a q z => ?_, h.gr⟩
  · rw [List.map_cons, List.nodup_cons]
    refine ⟨fun z => ?_, h.nd⟩
    obtain ⟨⟨a, q⟩, hm, e⟩ := List.mem_map.mp z
    subst e
    exact h2 q hm
  · rcases List.mem_cons.mp z with e | e
    · cases e
      exact ⟨h1, u, upd_same, r⟩
    · obtain ⟨h3, w, h4, h5⟩ := h.mu a q e
      have ha : a ≠ p := fun z => by subst z; exact h2 q e
      exact ⟨h3, w, by rw [upd_ne ha]; exact h4, h5⟩
theorem nodup_get {μ : Mu} (nd : (μ.map (·.1)).Nodup) {i j : Nat} {p : Addr} {o u : MO} (h1 : μ[i]? = some (p, o)) (h2 : μ[j]? = some (p, u)) : i = j := by
  have e1 : (μ.map (·.1))[i]? = some p := by rw [List.getElem?_map, h1]; rfl
  have e2 : (μ.map (·.1))[j]? = some p := by rw [List.getElem?_map, h2]; rfl
  obtain ⟨l1, g1⟩ := List.getElem?_eq_some_iff.mp e1
  obtain ⟨l2, g2⟩ := List.getElem?_eq_some_iff.mp e2
  exact (List.getElem_inj nd).mp (g1.trans g2.symm)
theorem map_set_fst {μ : Mu} {i : Nat} {p : Addr} {o u : MO} (h : μ[i]? = some (p, o)) : ((μ.set i (p, u)).map (·.1)) = μ.map (·.1) := by
  rw [List.map_set]
  apply List.ext_getElem?
  intro j
  by_cases hj : i = j
  · subst hj
    have hl : i < (μ.map (·.1)).length := by rw [List.length_map]; exact (List.getElem?_eq_some_iff.mp h).1
    rw [List.getElem?_set_self hl, List.getElem?_map, h]
    rfl
  · rw [List.getElem?_set_ne hj]
/-- a cell is written -/
theorem Hs.write (h : Hs K F μ H) {i : Nat} {p : Addr} {u : HO} {o o' : MO} (e : μ[i]? = some (p, o)) (r : RepO K F o' u) : Hs K F (μ.set i (p, o')) (upd H p u) := by
  obtain ⟨h1, _, h2, _⟩ := h.at_ e
  have hl : i < μ.length := (List.getElem?_eq_some_iff.mp e).1
  refine ⟨fun a q z => ?_, by rw [map_set_fst e]; exact h.nd, fun a q z => ?_, h.gr⟩
  · have ha : a ≠ p := ne_of_none z h1
    rw [upd_ne ha]; exact h.ex a q z
  · obtain ⟨j, hj, ej⟩ := List.mem_iff_getElem.mp z
    by_cases hij : i = j
    · subst hij
      rw [List.getElem_set_self] at ej
      cases ej
      exact ⟨h1, u, upd_same, r⟩
    · rw [List.getElem_set_ne hij] at ej
      have hj' : j < μ.length := by rw [List.length_set] at hj; exact hj
      have ej' : μ[j]? = some (a, q) := by rw [List.getElem?_eq_getElem hj', ej]
      obtain ⟨h3, w, h4, h5⟩ := h.mu a q (mem_of_get ej')
      have ha : a ≠ p := fun z => by
        subst z
        exact hij (nodup_get h.nd e ej')
      exact ⟨h3, w, by rw [upd_ne ha]; exact h4, h5⟩
/-- cells forgotten -/
theorem Hs.sub {μ' : Mu} (h : Hs K F μ H) (s : μ'.Sublist μ) : Hs K F μ' H := ⟨h.ex, h.nd.sublist (s.map _), fun a o q => h.mu a o (s.subset q), h.gr⟩
/-- a list's cell stands still from now on -/
theorem Hs.freeze (h : Hs K F μ H) {i : Nat} {p : Addr} {ds : List D} (e : μ[i]? = some (p, .lst ds)) : ∃ F', Ex F F' ∧ Hs K F' (μ.eraseIdx i) H ∧ Rep K F' (.ref p) (.lst ds) := by
  obtain ⟨h1, _⟩ := h.at_ e
  obtain ⟨xs, h2, h3⟩ := h.lst e
  have hs := h.sub (List.eraseIdx_sublist μ i)
  have hn : ∀ o, (p, o) ∉ μ.eraseIdx i := fun o z => by
    have hl : i < μ.length := (List.getElem?_eq_some_iff.mp e).1
    obtain ⟨j, hj, ne⟩ := List.mem_eraseIdx_iff_getElem?.mp z
    exact hj (nodup_get h.nd ne e)
  obtain ⟨q1, q2⟩ := hs.still h1 h2 hn
  exact ⟨_, q2, q1, .lst upd_same (h3.mono q2)⟩
theorem Hs.of_still {H : Hp} (e : Ex K.g H) : Hs K H [] H := ⟨Ex.refl H, List.nodup_nil, fun a o z => (by cases z), e⟩
end

/-- what follows a value -/
def Kont (K : KF) (F : Hp) (Φ : D → Mu → Prop) (Q : VK) : Prop := ∀ v F' H' d μ', Φ d μ' → Ex F F' → Hs K F' μ' H' → Rep K F' v d → Q v H'
def KontA (K : KF) (F : Hp) (Φ : List D → Mu → Prop) (Q : List V → Hp → Prop) : Prop := ∀ v F' H' d μ', Φ d μ' → Ex F F' → Hs K F' μ' H' → Reps K F' v d → Q v H'
def KontT (K : KF) (F : Hp) (Φ : Bool → Mu → Prop) (Q : Bool → Hp → Prop) : Prop := ∀ b F' H' μ', Φ b μ' → Ex F F' → Hs K F' μ' H' → Q b H'
def KontS (K : KF) (F : Hp) (Φ : Rho → Mu → Prop) (Q : St → Hp → Prop) : Prop := ∀ F' H' σ' ρ' μ', Φ ρ' μ' → Ex F F' → Hs K F' μ' H' → Sl K F' ρ' σ' → Q σ' H'
structure En where
  nx : Rho → Mu → Prop
  rt : D → Mu → Prop
  bk : Rho → Mu → Prop := fun _ _ => False
  ct : Rho → Mu → Prop := fun _ _ => False
structure KontE (K : KF) (F : Hp) (E : En) (D : Ends) : Prop where
  nx : KontS K F E.nx D.nx
  rt : Kont K F E.rt D.rt
  bk : KontS K F E.bk D.bk
  ct : KontS K F E.ct D.ct
section
variable {K : KF} {F F' : Hp}
theorem Kont.mono (e : Ex F F') {Φ : D → Mu → Prop} {Q : VK} (k : Kont K F Φ Q) : Kont K F' Φ Q := fun v F1 H1 d μ1 h x => k v F1 H1 d μ1 h (e.trans x)
theorem KontA.mono (e : Ex F F') {Φ : List D → Mu → Prop} {Q : List V → Hp → Prop} (k : KontA K F Φ Q) : KontA K F' Φ Q := fun v F1 H1 d μ1 h x => k v F1 H1 d μ1 h (e.trans x)
theorem KontT.mono (e : Ex F F') {Φ : Bool → Mu → Prop} {Q : Bool → Hp → Prop} (k : KontT K F Φ Q) : KontT K F' Φ Q := fun v F1 H1 μ1 h x => k v F1 H1 μ1 h (e.trans x)
theorem KontS.mono (e : Ex F F') {Φ : Rho → Mu → Prop} {Q : St → Hp → Prop} (k : KontS K F Φ Q) : KontS K F' Φ Q := fun F1 H1 s r μ1 h x => k F1 H1 s r μ1 h (e.trans x)
theorem KontE.mono (e : Ex F F') {E : En} {D : Ends} (k : KontE K F E D) : KontE K F' E D := ⟨k.nx.mono e, k.rt.mono e, k.bk.mono e, k.ct.mono e⟩
end

/-! ### what a piece of syntax does, as it stands -/
section
variable (X : Cy)
def sE (e : Expr) : TE := fun σ H Q => ∀ (pins : List (Addr × Obj)) (s : Shared), Inv X pins σ H s → wpAny (model X.prog X.w) X.A (eval e X.env) (EP X pins σ Q) X.xe s
def sT (e : Expr) : TT := fun σ H Q => ∀ (pins : List (Addr × Obj)) (s : Shared), Inv X pins σ H s → wpAny (model X.prog X.w) X.A (isTrue e X.env (eval e X.env)) (TP X pins σ Q) X.xe s
def sW (e : Expr) : TT := fun σ H Q => ∀ (whole : Sem Value) (pins : List (Addr × Obj)) (s : Shared), Inv X pins σ H s → wpAny (model X.prog X.w) X.A (isTrue e X.env whole) (TP X pins σ Q) X.xe s
def sA (es : List Expr) : TA := fun σ H Q => ∀ (pos : Pos) (pins : List (Addr × Obj)) (s : Shared), Inv X pins σ H s → wpAny (model X.prog X.w) X.A (spliced (backTo pos (starEach es X.env))) (AP X pins σ Q) X.xe s
def sS (st : Stmt) : TS := fun D σ H => ∀ (pins : List (Addr × Obj)) (s : Shared), Inv X pins σ H s → wpAny (model X.prog X.w) X.A (exec st X.env) (SP X pins D) X.xe s
def sSs (st : List Stmt) : TS := fun D σ H => ∀ (pins : List (Addr × Obj)) (s : Shared), Inv X pins σ H s → wpAny (model X.prog X.w) X.A (execs st X.env) (SP X pins D) X.xe s
def sG (tg : Expr) : TG := fun v σ H Q => ∀ (pins : List (Addr × Obj)) (s : Shared) (u : Value), Inv X pins σ H s → RelV v u → wpAny (model X.prog X.w) X.A (assign tg X.env u) (fun _ s' => ∃ σ' H', Inv X pins σ' H' s' ∧ Q σ' H') X.xe s
def sGs (ts : List Expr) : TGs := fun vs σ H Q => ∀ (pins : List (Addr × Obj)) (s : Shared) (us : List Value), Inv X pins σ H s → Vals vs us → wpAny (model X.prog X.w) X.A (assignInOrder ((assignEach ts X.env).map (·.2)) us) (fun _ s' => ∃ σ' H', Inv X pins σ' H' s' ∧ Q σ' H') X.xe s
def sI (tg iter : Expr) : TI := fun σ H R => ∀ (pins : List (Addr × Obj)) (s : Shared), Inv X pins σ H s → wpAny (model X.prog X.w) X.A (eval iter X.env) (fun v s1 => wpAny (model X.prog X.w) X.A (pyIter v) (PIE X pins σ tg R) X.xe s1) X.xe s
end
section
variable {X : Cy}
theorem pe_s {e : Expr} : PE X e (sE X e) := ⟨fun pins s σ H Q I h => h pins s I⟩
theorem pt_s {e : Expr} : PT X e (sT X e) := ⟨fun pins s σ H Q I h => h pins s I⟩
theorem pw_s {e : Expr} : PW X e (sW X e) := ⟨fun w pins s σ H Q I h => h w pins s I⟩
theorem pa_s {es : List Expr} : PA X es (sA X es) := ⟨fun pos pins s σ H Q I h => h pos pins s I⟩
theorem ps_s {st : Stmt} : PS X st (sS X st) := ⟨fun pins s σ H D I h => h pins s I⟩
theorem pss_s {st : List Stmt} : PSs X st (sSs X st) := ⟨fun pins s σ H D I h => h pins s I⟩
theorem pg_s {tg : Expr} : PG X tg (sG X tg) := ⟨fun pins s σ H v u Q I r h => h pins s u I r⟩
theorem pgs_s {tg : List Expr} : PGs X tg (sGs X tg) := ⟨fun pins s σ H v u Q I r h => h pins s u I r⟩
theorem pi_s {tg iter : Expr} : PI X tg iter (sI X tg iter) := ⟨fun pins s σ H R I h => h pins s I⟩
theorem se_of {e : Expr} {t : TE} (p : PE X e t) {σ : St} {H : Hp} {Q : VK} (h : t σ H Q) : sE X e σ H Q := fun pins s I => p.run pins s σ H Q I h
theorem st_of {e : Expr} {t : TT} (p : PT X e t) {σ : St} {H : Hp} {Q : Bool → Hp → Prop} (h : t σ H Q) : sT X e σ H Q := fun pins s I => p.run pins s σ H Q I h
theorem sw_of {e : Expr} {t : TT} (p : PW X e t) {σ : St} {H : Hp} {Q : Bool → Hp → Prop} (h : t σ H Q) : sW X e σ H Q := fun w pins s I => p.run w pins s σ H Q I h
theorem sa_of {e : List Expr} {t : TA} (p : PA X e t) {σ : St} {H : Hp} {Q : List V → Hp → Prop} (h : t σ H Q) : sA X e σ H Q := fun pos pins s I => p.run pos pins s σ H Q I h
theorem ss_of {e : Stmt} {t : TS} (p : PS X e t) {σ : St} {H : Hp} {D : Ends} (h : t D σ H) : sS X e D σ H := fun pins s I => p.run pins s σ H D I h
theorem sss_of {e : List Stmt} {t : TS} (p : PSs X e t) {σ : St} {H : Hp} {D : Ends} (h : t D σ H) : sSs X e D σ H := fun pins s I => p.run pins s σ H D I h
theorem sg_of {e : Expr} {t : TG} (p : PG X e t) {v : V} {σ : St} {H : Hp} {Q : St → Hp → Prop} (h : t v σ H Q) : sG X e v σ H Q := fun pins s u I r => p.run pins s σ H v u Q I r h
theorem sgs_of {e : List Expr} {t : TGs} (p : PGs X e t) {v : List V} {σ : St} {H : Hp} {Q : St → Hp → Prop} (h : t v σ H Q) : sGs X e v σ H Q := fun pins s u I r => p.run pins s σ H v u Q I r h
theorem si_of {tg e : Expr} {t : TI} (p : PI X tg e t) {σ : St} {H : Hp} {R : It → Hp → Prop} (h : t σ H R) : sI X tg e σ H R := fun pins s I => p.run pins s σ H R I h
end

/-! ### the calculus -/
section
variable (X : Cy)
def wE (e : Expr) (ρ : Rho) (μ : Mu) (Φ : D → Mu → Prop) : Prop := ∀ F σ H, Hs X.K F μ H → Sl X.K F ρ σ → ∀ Q, Kont X.K F Φ Q → sE X e σ H Q
def wT (e : Expr) (ρ : Rho) (μ : Mu) (Φ : Bool → Mu → Prop) : Prop := ∀ F σ H, Hs X.K F μ H → Sl X.K F ρ σ → ∀ Q, KontT X.K F Φ Q → sT X e σ H Q
def wW (e : Expr) (ρ : Rho) (μ : Mu) (Φ : Bool → Mu → Prop) : Prop := ∀ F σ H, Hs X.K F μ H → Sl X.K F ρ σ → ∀ Q, KontT X.K F Φ Q → sW X e σ H Q
def wA (es : List Expr) (ρ : Rho) (μ : Mu) (Φ : List D → Mu → Prop) : Prop := ∀ F σ H, Hs X.K F μ H → Sl X.K F ρ σ → ∀ Q, KontA X.K F Φ Q → sA X es σ H Q
def wS (st : Stmt) (ρ : Rho) (μ : Mu) (E : En) : Prop := ∀ F σ H, Hs X.K F μ H → Sl X.K F ρ σ → ∀ D, KontE X.K F E D → sS X st D σ H
def wSs (st : List Stmt) (ρ : Rho) (μ : Mu) (E : En) : Prop := ∀ F σ H, Hs X.K F μ H → Sl X.K F ρ σ → ∀ D, KontE X.K F E D → sSs X st D σ H
def wG (tg : Expr) (d : D) (ρ : Rho) (μ : Mu) (Φ : Rho → Mu → Prop) : Prop := ∀ F σ H v, Hs X.K F μ H → Sl X.K F ρ σ → Rep X.K F v d → ∀ Q, KontS X.K F Φ Q → sG X tg v σ H Q
def wGs (ts : List Expr) (ds : List D) (ρ : Rho) (μ : Mu) (Φ : Rho → Mu → Prop) : Prop := ∀ F σ H vs, Hs X.K F μ H → Sl X.K F ρ σ → Reps X.K F vs ds → ∀ Q, KontS X.K F Φ Q → sGs X ts vs σ H Q
/-- operations by values -/
def wOp (f : Value → Value → Sem Value) (d e : D) (μ : Mu) (Φ : D → Mu → Prop) : Prop := ∀ F H x y, Hs X.K F μ H → Rep X.K F x d → Rep X.K F y e → ∀ Q, Kont X.K F Φ Q → ∀ (pins : List (Addr × Obj)) (s : Shared) (σ : St) (v u : Value), Inv X pins σ H s → RelV x v → RelV y u → wpAny (model X.prog X.w) X.A (f v u) (EP X pins σ Q) X.xe s
def wUn (f : Value → Sem Value) (d : D) (μ : Mu) (Φ : D → Mu → Prop) : Prop := ∀ F H x, Hs X.K F μ H → Rep X.K F x d → ∀ Q, Kont X.K F Φ Q → ∀ (pins : List (Addr × Obj)) (s : Shared) (σ : St) (v : Value), Inv X pins σ H s → RelV x v → wpAny (model X.prog X.w) X.A (f v) (EP X pins σ Q) X.xe s
def wCl (f : Value) (ds : List D) (μ : Mu) (Φ : D → Mu → Prop) : Prop := ∀ F H xs, Hs X.K F μ H → Reps X.K F xs ds → ∀ Q, Kont X.K F Φ Q → ∀ (pins : List (Addr × Obj)) (s : Shared) (σ : St) (us : List Value), Inv X pins σ H s → Vals xs us → wpAny (model X.prog X.w) X.A (call f us) (EP X pins σ Q) X.xe s
/-- a subscript by values -/
def wIx (d e : D) (μ : Mu) (Φ : D → Mu → Prop) : Prop := ∀ F H x y, Hs X.K F μ H → Rep X.K F x d → Rep X.K F y e → ∀ Q, Kont X.K F Φ Q → ∀ (value slice : Expr) (pins : List (Addr × Obj)) (s : Shared) (σ : St) (v u : Value), Inv X pins σ H s → RelV x v → RelV y u →
  subscripted slice false v u = operate [v, u] (getItem v u) → wpAny (model X.prog X.w) X.A (PyProof.Rows.subscriptTail value slice v u) (EP X pins σ Q) X.xe s
/-- what is walked: the items -/
def Wk (K : KF) (F : Hp) (J : It) (its : List D) : Prop := ∀ i F' μ H, Ex F F' → Hs K F' μ H → (i < its.length → J.go i H) ∧ (i = its.length → J.stop i H) ∧ ∀ x H' d, J.yld i H x H' → its[i]? = some d → ∃ F2, Ex F' F2 ∧ Hs K F2 μ H' ∧ Rep K F2 x d
def wI (tg iter : Expr) (ρ : Rho) (μ : Mu) (Φ : List D → Mu → Prop) : Prop := ∀ F σ H, Hs X.K F μ H → Sl X.K F ρ σ → ∀ R, (∀ J its F' μ' H', Φ its μ' → Ex F F' → Hs X.K F' μ' H' → Wk X.K F' J its → R J H') → sI X tg iter σ H R
end

section
variable {X : Cy} {e a b c : Expr} {es : List Expr} {ρ : Rho} {μ : Mu} {Φ : D → Mu → Prop} {ΦT : Bool → Mu → Prop} {ΦA : List D → Mu → Prop} {E : En} {pos p : Pos}

/-! expressions -/
theorem w_name (i : Nat) {x : Str} {d : D} (hN : X.N[i]? = some x) (hv : Vis X.env.scope x) (h : ρ[i]? = some (some d)) (k : Φ d μ) (hd : (x == ("__debug__" : Str)) = false := by decide) (hcd : (x == ("__classdict__" : Str)) = false := by decide) : wE X (.Name x pos) ρ μ Φ := fun F σ H hs sl Q kt => by
  obtain ⟨v, h1, h2⟩ := sl.at_ i d h
  exact se_of (pe_var hN hv hd hcd) ⟨v, h1, kt v F H d μ k (Ex.refl F) hs h2⟩
theorem w_int {i j} (k : Φ (.int i) μ) : wE X (.Constant (.int i) j pos) ρ μ Φ := fun F σ H hs sl Q kt => se_of pe_int (kt _ F H _ μ k (Ex.refl F) hs (.int i))
theorem w_bl {i j} (k : Φ (.bl i) μ) : wE X (.Constant (.bool i) j pos) ρ μ Φ := fun F σ H hs sl Q kt => se_of pe_bl (kt _ F H _ μ k (Ex.refl F) hs (.bl i))
theorem w_non {j} (k : Φ .non μ) : wE X (.Constant .none j pos) ρ μ Φ := fun F σ H hs sl Q kt => se_of pe_non (kt _ F H _ μ k (Ex.refl F) hs .non)
theorem w_str {i j} (k : Φ (.str i) μ) : wE X (.Constant (.str i) j pos) ρ μ Φ := fun F σ H hs sl Q kt => se_of pe_str (kt _ F H _ μ k (Ex.refl F) hs (.str i))
/-- a list made here stands still behind e -/
theorem w_fz (h : wE X e ρ μ fun d μ1 => ∃ i p ds, d = .ptr p ∧ μ1[i]? = some (p, .lst ds) ∧ Φ (.lst ds) (μ1.eraseIdx i)) : wE X e ρ μ Φ := fun F σ H hs sl Q kt =>
  h F σ H hs sl Q fun v F1 H1 d μ1 ⟨i, p, ds, hd, hi, q⟩ x1 hs1 r => by
    subst hd
    cases r
    obtain ⟨F2, x2, hs2, r2⟩ := hs1.freeze hi
    exact kt _ F2 H1 _ _ q (x1.trans x2) hs2 r2
theorem w_mono {Ψ : D → Mu → Prop} (h : wE X e ρ μ Ψ) (k : ∀ d μ', Ψ d μ' → Φ d μ') : wE X e ρ μ Φ := fun F σ H hs sl Q kt => h F σ H hs sl Q fun v F1 H1 d μ1 q => kt v F1 H1 d μ1 (k d μ1 q)
/-- cells that are needed no more -/
theorem w_sub {μ' : Mu} (s : μ'.Sublist μ) (h : wE X e ρ μ' Φ) : wE X e ρ μ Φ := fun F σ H hs sl Q kt => h F σ H (hs.sub s) sl Q kt

/-- cells that are needed no more, behind e -/
theorem w_dr (h : wE X e ρ μ fun d μ1 => ∃ μ2, μ2.Sublist μ1 ∧ Φ d μ2) : wE X e ρ μ Φ := fun F σ H hs sl Q kt => h F σ H hs sl Q fun v F1 H1 d μ1 ⟨μ2, s, q⟩ x hs1 r => kt v F1 H1 d μ2 q x (hs1.sub s) r

theorem binW {R : V → V → Hp → Prop} {ΨT : D → D → Mu → Prop} (h : wE X a ρ μ fun d1 μ1 => wE X b ρ μ1 fun d2 μ2 => ΨT d1 d2 μ2) {F : Hp} {σ : St} {H : Hp} (hs : Hs X.K F μ H) (sl : Sl X.K F ρ σ)
    (k : ∀ x y F2 H2 d1 d2 μ2, ΨT d1 d2 μ2 → Ex F F2 → Hs X.K F2 μ2 H2 → Rep X.K F2 x d1 → Rep X.K F2 y d2 → R x y H2) : sE X a σ H fun x H1 => sE X b σ H1 fun y H2 => R x y H2 :=
  h F σ H hs sl _ fun x F1 H1 d1 μ1 h1 e1 hs1 r1 => h1 F1 σ H1 hs1 (sl.mono e1) _ fun y F2 H2 d2 μ2 h2 e2 hs2 r2 => k x y F2 H2 d1 d2 μ2 h2 (e1.trans e2) hs2 (r1.mono e2) r2
/-- the semantic operator -/
def semR (X : Cy) (f : Value → Value → Sem Value) : R2 := fun x y H Q => ∀ (pins : List (Addr × Obj)) (s : Shared) (σ : St) (v u : Value), Inv X pins σ H s → RelV x v → RelV y u → wpAny (model X.prog X.w) X.A (f v u) (EP X pins σ Q) X.xe s
theorem op_s {f : Value → Value → Sem Value} : OpR X f (semR X f) := fun pins s σ H x y v u Q I rx ry h => h pins s σ v u I rx ry
theorem w_bin {op : Operator} (h : wE X a ρ μ fun d1 μ1 => wE X b ρ μ1 fun d2 μ2 => wOp X (binaryOp op) d1 d2 μ2 Φ) : wE X (.BinOp a op b pos) ρ μ Φ := fun F σ H hs sl Q kt =>
  se_of (pe_op op_s pe_s pe_s) (binW h hs sl fun x y F2 H2 d1 d2 μ2 q e hs2 r1 r2 => q F2 H2 x y hs2 r1 r2 Q (kt.mono e))
theorem w_cmp {op : CmpOp} (h : wE X a ρ μ fun d1 μ1 => wE X b ρ μ1 fun d2 μ2 => wOp X (compareOp op) d1 d2 μ2 Φ) (hm : behindInMarks op b = false := by rfl) : wE X (.Compare a [op] [b] pos) ρ μ Φ := fun F σ H hs sl Q kt =>
  se_of (pe_cmpR op_s pe_s pe_s hm) (binW h hs sl fun x y F2 H2 d1 d2 μ2 q e hs2 r1 r2 => q F2 H2 x y hs2 r1 r2 Q (kt.mono e))
theorem w_un {op : UnaryOp} (h : wE X a ρ μ fun d1 μ1 => wUn X (unaryOp op) d1 μ1 Φ) : wE X (.UnaryOp op a pos) ρ μ Φ := fun F σ H hs sl Q kt =>
  se_of (pe_un (r := fun x H Q => ∀ (pins : List (Addr × Obj)) (s : Shared) (σ : St) (v : Value), Inv X pins σ H s → RelV x v → wpAny (model X.prog X.w) X.A (unaryOp op v) (EP X pins σ Q) X.xe s) (fun pins s σ H x v Q I r h => h pins s σ v I r) pe_s)
    (h F σ H hs sl _ fun x F1 H1 d1 μ1 q e1 hs1 r1 => q F1 H1 x hs1 r1 Q (kt.mono e1))
theorem w_ix (h : wE X a ρ μ fun d1 μ1 => wE X b ρ μ1 fun d2 μ2 => wIx X d1 d2 μ2 Φ) (hs : PlainIx b := by exact fun _ _ => rfl) : wE X (.Subscript a b pos) ρ μ Φ := fun F σ H hh sl Q kt =>
  se_of (pe_ix (r := fun x y H Q => ∀ (value slice : Expr) (pins : List (Addr × Obj)) (s : Shared) (σ : St) (v u : Value), Inv X pins σ H s → RelV x v → RelV y u →
    subscripted slice false v u = operate [v, u] (getItem v u) → wpAny (model X.prog X.w) X.A (PyProof.Rows.subscriptTail value slice v u) (EP X pins σ Q) X.xe s) (fun value slice pins s σ H x y v u Q I rx ry h z => h value slice pins s σ v u I rx ry z) pe_s pe_s hs)
    (binW h hh sl fun x y F2 H2 d1 d2 μ2 q e hs2 r1 r2 => q F2 H2 x y hs2 r1 r2 Q (kt.mono e))
/-! argument lists, displays -/
theorem wa_nil (k : ΦA [] μ) : wA X [] ρ μ ΦA := fun F σ H hs sl Q kt => sa_of pa_nil (kt [] F H [] μ k (Ex.refl F) hs .nil)
theorem wa_cons (h : wE X e ρ μ fun d μ1 => wA X es ρ μ1 fun ds μ2 => ΦA (d :: ds) μ2) (hst : starEach (e :: es) X.env = (false, eval e X.env) :: starEach es X.env := by rfl) : wA X (e :: es) ρ μ ΦA := fun F σ H hs sl Q kt =>
  sa_of (pa_cons pe_s pa_s hst) (h F σ H hs sl _ fun x F1 H1 d μ1 h1 e1 hs1 r1 => h1 F1 σ H1 hs1 (sl.mono e1) _ fun xs F2 H2 ds μ2 h2 e2 hs2 r2 => kt (x :: xs) F2 H2 (d :: ds) μ2 h2 (e1.trans e2) hs2 (.cons (r1.mono e2) r2))
theorem w_tup {n} (h : wA X es ρ μ fun ds μ1 => ds.length ≤ 100000 ∧ Φ (.tup ds) μ1) : wE X (.Tuple es n pos) ρ μ Φ := fun F σ H hs sl Q kt =>
  se_of (pe_tup pa_s) (h F σ H hs sl _ fun xs F1 H1 ds μ1 ⟨hz, q⟩ e1 hs1 r1 => ⟨Evl.sz_of (by rw [r1.length]; exact hz), fun p hp => by
    obtain ⟨g1, g2⟩ := hs1.laid (u := .tup xs) hp
    exact kt _ _ _ _ _ q (e1.trans g2) g1 (.tup upd_same (r1.mono g2))⟩)
/-- a list that stands still from the start -/
theorem w_lst (h : wA X es ρ μ fun ds μ1 => ds.length ≤ 100000 ∧ Φ (.lst ds) μ1) : wE X (.List es pos) ρ μ Φ := fun F σ H hs sl Q kt =>
  se_of (pe_lst pa_s) (h F σ H hs sl _ fun xs F1 H1 ds μ1 ⟨hz, q⟩ e1 hs1 r1 => ⟨Evl.sz_of (by rw [r1.length]; exact hz), fun p hp => by
    obtain ⟨g1, g2⟩ := hs1.laid (u := .lst xs) hp
    exact kt _ _ _ _ _ q (e1.trans g2) g1 (.lst upd_same (r1.mono g2))⟩)
/-- a list that will change -/
theorem w_lstM (h : wA X es ρ μ fun ds μ1 => ds.length ≤ 100000 ∧ ∀ p, Φ (.ptr p) ((p, .lst ds) :: μ1)) : wE X (.List es pos) ρ μ Φ := fun F σ H hs sl Q kt =>
  se_of (pe_lst pa_s) (h F σ H hs sl _ fun xs F1 H1 ds μ1 ⟨hz, q⟩ e1 hs1 r1 => ⟨Evl.sz_of (by rw [r1.length]; exact hz), fun p hp => kt _ _ _ _ _ (q p) e1 (hs1.cell hp (.lst r1)) (.ptr p)⟩)
/-! calls -/
theorem w_callB {x : Str} {id : String} (hm : X.mg x = none) (h : wA X (e :: es) ρ μ fun ds μ1 => wCl X (.builtin id) ds μ1 Φ) (hg : Gl X x := by rfl) (hv : bootBuiltins x = some (.builtin id) := by decide +kernel) (hn : x ≠ "__name__" := by decide) (hdb : (x == ("__debug__" : Str)) = false := by decide)
    (he : starEach (e :: es) X.env = (false, eval e X.env) :: starEach es X.env := by rfl) (hpl : (backTo pos (starEach es X.env)).any (·.1) = false := by rfl) : wE X (.Call (.Name x p) (e :: es) [] pos) ρ μ Φ := fun F σ H hs sl Q kt =>
  se_of (pe_callB (r := fun xs H Q => ∀ (pins : List (Addr × Obj)) (s : Shared) (σ : St) (us : List Value), Inv X pins σ H s → Vals xs us → wpAny (model X.prog X.w) X.A (call (.builtin id) us) (EP X pins σ Q) X.xe s) (fun pins s σ H xs us Q I r h => h pins s σ us I r) hg hm hv pa_s hn hdb he hpl)
    (h F σ H hs sl _ fun xs F1 H1 ds μ1 q e1 hs1 r1 => q F1 H1 xs hs1 r1 Q (kt.mono e1))
theorem w_callTy {x : Str} {T : String} (hm : X.mg x = none) (h : wA X (e :: es) ρ μ fun ds μ1 => wCl X (.type T) ds μ1 Φ) (hg : Gl X x := by rfl) (hv : bootBuiltins x = some (.type T) := by decide +kernel) (hn : x ≠ "__name__" := by decide) (hdb : (x == ("__debug__" : Str)) = false := by decide)
    (he : starEach (e :: es) X.env = (false, eval e X.env) :: starEach es X.env := by rfl) (hpl : (backTo pos (starEach es X.env)).any (·.1) = false := by rfl) : wE X (.Call (.Name x p) (e :: es) [] pos) ρ μ Φ := fun F σ H hs sl Q kt =>
  se_of (pe_callTy (r := fun xs H Q => ∀ (pins : List (Addr × Obj)) (s : Shared) (σ : St) (us : List Value), Inv X pins σ H s → Vals xs us → wpAny (model X.prog X.w) X.A (call (.type T) us) (EP X pins σ Q) X.xe s) (fun pins s σ H xs us Q I r h => h pins s σ us I r) hg hm hv pa_s hn hdb he hpl)
    (h F σ H hs sl _ fun xs F1 H1 ds μ1 q e1 hs1 r1 => q F1 H1 xs hs1 r1 Q (kt.mono e1))
/-- a value that names a built-in type, as an argument -/
abbrev FS := List D → Mu → (D → Mu → Prop) → Prop
/-- a def's promise over data -/
def spD (K : PySem.W.Frag) (S : FS) : Sp := fun vs H Q _ => ∃ (g F : Hp) (ds : List D) (μ : Mu) (Φ : D → Mu → Prop), Hs ⟨K, g⟩ F μ H ∧ Reps K F vs ds ∧ S ds μ Φ ∧ Kont ⟨K, g⟩ F Φ Q
/-- a method of a built-in type -/
def wMt (X : Cy) (T id : String) (d : D) (ds : List D) (μ : Mu) (Φ : D → Mu → Prop) : Prop := ∀ F H x xs, Hs X.K F μ H → Rep X.K F x d → Reps X.K F xs ds → ∀ Q, Kont X.K F Φ Q → ∀ (pins : List (Addr × Obj)) (s : Shared) (σ : St) (v : Value) (us : List Value), Inv X pins σ H s → RelV x v → Vals xs us → wpAny (model X.prog X.w) X.A (call (.builtin id) (v :: us)) (EP X pins σ Q) X.xe s
/-- of which type the receiver is -/
def tyD (T : String) (d : D) (μ : Mu) : Prop := match d with
  | .str _ => T = "str"
  | .lst _ => T = "list"
  | .scr _ => T = "list"
  | .tup _ => T = "tuple"
  | .tpl _ => T = "tuple"
  | .ptr p => (T = "list" ∧ ∃ (i : Nat) (l : List D), μ[i]? = some (p, MO.lst l)) ∨ (T = "dict" ∧ ∃ (i : Nat) (l : List (Key × D)), μ[i]? = some (p, MO.dk l)) ∨ (T = "dict" ∧ ∃ (i : Nat) (l : List (List Key × D)), μ[i]? = some (p, MO.dt l))
  | _ => False
end
end Oc

/-! Own layer, part 2: statements, loops, comprehensions, defs. -/
namespace Oc
open PySem PySem.Spec L2
open Evl (Ex)
section
variable {X : Cy} {e a b c : Expr} {es : List Expr} {st : Stmt} {sts us : List Stmt} {ρ : Rho} {μ : Mu} {Φ : D → Mu → Prop} {ΦT : Bool → Mu → Prop} {ΦA : List D → Mu → Prop} {ΦS : Rho → Mu → Prop} {E : En} {pos p : Pos}

/-! tests -/
theorem wt_val (h : wE X e ρ μ fun d μ1 => ∃ b, d = .bl b ∧ ΦT b μ1) (he : ∀ whole, isTrue e X.env whole = (do let v ← whole; standAt e.pos; holding [v] (truthy v)) := by intro _; rfl) : wT X e ρ μ ΦT := fun F σ H hs sl Q kt =>
  st_of (pt_val pe_s he) (h F σ H hs sl _ fun v F1 H1 d μ1 ⟨b, hd, q⟩ e1 hs1 r1 => by
    subst hd
    cases r1
    exact ⟨b, rfl, kt b F1 H1 μ1 q e1 hs1⟩)
theorem wt_cmp {op : CmpOp} (h : wE X a ρ μ fun d1 μ1 => wE X b ρ μ1 fun d2 μ2 => wOp X (compareOp op) d1 d2 μ2 fun d μ3 => ∃ k, d = .bl k ∧ ΦT k μ3) (hm : behindInMarks op b = false := by rfl) : wT X (.Compare a [op] [b] pos) ρ μ ΦT := fun F σ H hs sl Q kt =>
  st_of (pt_cmpR op_s pe_s pe_s hm) (binW h hs sl fun x y F2 H2 d1 d2 μ2 q e hs2 r1 r2 => q F2 H2 x y hs2 r1 r2 _ fun v F3 H3 d μ3 ⟨k, hd, q3⟩ e3 hs3 r3 => by
    subst hd
    cases r3
    exact ⟨k, rfl, kt k F3 H3 μ3 q3 (e.trans e3) hs3⟩)
theorem wt_not (h : wT X a ρ μ fun b μ1 => ΦT (!b) μ1) : wT X (.UnaryOp .Not a pos) ρ μ ΦT := fun F σ H hs sl Q kt =>
  st_of (pt_not pt_s) (h F σ H hs sl _ fun b F1 H1 μ1 q e1 hs1 => kt (!b) F1 H1 μ1 q e1 hs1)
theorem wt_w (h : wW X e ρ μ ΦT) : wT X e ρ μ ΦT := fun F σ H hs sl Q kt => st_of (PW.pt pw_s) (h F σ H hs sl Q kt)
theorem ww_and1 (h : wT X a ρ μ ΦT) : wW X (.BoolOp .And [a] pos) ρ μ ΦT := fun F σ H hs sl Q kt => sw_of (pw_and1 pt_s) (h F σ H hs sl Q kt)
theorem ww_or1 (h : wT X a ρ μ ΦT) : wW X (.BoolOp .Or [a] pos) ρ μ ΦT := fun F σ H hs sl Q kt => sw_of (pw_or1 pt_s) (h F σ H hs sl Q kt)
theorem ww_and {rest : List Expr} (h : wT X a ρ μ fun k μ1 => (k = true → wW X (.BoolOp .And (b :: rest) pos) ρ μ1 ΦT) ∧ (k = false → ΦT false μ1)) : wW X (.BoolOp .And (a :: b :: rest) pos) ρ μ ΦT := fun F σ H hs sl Q kt =>
  sw_of (pw_and pt_s pw_s) (h F σ H hs sl _ fun k F1 H1 μ1 q e1 hs1 => by
    cases k with
    | true => exact q.1 rfl F1 σ H1 hs1 (sl.mono e1) Q (kt.mono e1)
    | false => exact kt false F1 H1 μ1 (q.2 rfl) e1 hs1)
theorem ww_or {rest : List Expr} (h : wT X a ρ μ fun k μ1 => (k = false → wW X (.BoolOp .Or (b :: rest) pos) ρ μ1 ΦT) ∧ (k = true → ΦT true μ1)) : wW X (.BoolOp .Or (a :: b :: rest) pos) ρ μ ΦT := fun F σ H hs sl Q kt =>
  sw_of (pw_or pt_s pw_s) (h F σ H hs sl _ fun k F1 H1 μ1 q e1 hs1 => by
    cases k with
    | false => exact q.1 rfl F1 σ H1 hs1 (sl.mono e1) Q (kt.mono e1)
    | true => exact kt true F1 H1 μ1 (q.2 rfl) e1 hs1)
theorem wt_mono {Ψ : Bool → Mu → Prop} (h : wT X e ρ μ Ψ) (k : ∀ d μ', Ψ d μ' → ΦT d μ') : wT X e ρ μ ΦT := fun F σ H hs sl Q kt => h F σ H hs sl Q fun v F1 H1 μ1 q => kt v F1 H1 μ1 (k v μ1 q)
/-- and, or, not, if as values -/
theorem w_andV {rest : List Expr} (h : wE X a ρ μ fun d μ1 => ∃ k, d = .bl k ∧ (k = true → wE X (.BoolOp .And (b :: rest) pos) ρ μ1 Φ) ∧ (k = false → Φ (.bl false) μ1)) : wE X (.BoolOp .And (a :: b :: rest) pos) ρ μ Φ := fun F σ H hs sl Q kt =>
  se_of (pe_and pe_s pe_s) (h F σ H hs sl _ fun v F1 H1 d μ1 ⟨k, hd, q⟩ e1 hs1 r1 => by
    subst hd
    cases r1
    refine ⟨k, rfl, ?_⟩
    cases k with
    | true => exact q.1 rfl F1 σ H1 hs1 (sl.mono e1) Q (kt.mono e1)
    | false => exact kt _ F1 H1 _ μ1 (q.2 rfl) e1 hs1 (.bl false))
theorem w_orV {rest : List Expr} (h : wE X a ρ μ fun d μ1 => ∃ k, d = .bl k ∧ (k = false → wE X (.BoolOp .Or (b :: rest) pos) ρ μ1 Φ) ∧ (k = true → Φ (.bl true) μ1)) : wE X (.BoolOp .Or (a :: b :: rest) pos) ρ μ Φ := fun F σ H hs sl Q kt =>
  se_of (pe_or pe_s pe_s) (h F σ H hs sl _ fun v F1 H1 d μ1 ⟨k, hd, q⟩ e1 hs1 r1 => by
    subst hd
    cases r1
    refine ⟨k, rfl, ?_⟩
    cases k with
    | false => exact q.1 rfl F1 σ H1 hs1 (sl.mono e1) Q (kt.mono e1)
    | true => exact kt _ F1 H1 _ μ1 (q.2 rfl) e1 hs1 (.bl true))
theorem w_notV (h : wE X a ρ μ fun d μ1 => ∃ k, d = .bl k ∧ Φ (.bl (!k)) μ1) : wE X (.UnaryOp .Not a pos) ρ μ Φ := fun F σ H hs sl Q kt =>
  se_of (pe_not pe_s) (h F σ H hs sl _ fun v F1 H1 d μ1 ⟨k, hd, q⟩ e1 hs1 r1 => by
    subst hd
    cases r1
    exact ⟨k, rfl, kt _ F1 H1 _ μ1 q e1 hs1 (.bl _)⟩)
theorem w_andV1 (h : wE X a ρ μ Φ) : wE X (.BoolOp .And [a] pos) ρ μ Φ := fun F σ H hs sl Q kt => se_of (pe_one (op := .And) pe_s) (h F σ H hs sl Q kt)
theorem w_orV1 (h : wE X a ρ μ Φ) : wE X (.BoolOp .Or [a] pos) ρ μ Φ := fun F σ H hs sl Q kt => se_of (pe_one (op := .Or) pe_s) (h F σ H hs sl Q kt)
theorem w_ifx (h : wT X c ρ μ fun k μ1 => (k = true → wE X a ρ μ1 Φ) ∧ (k = false → wE X b ρ μ1 Φ)) : wE X (.IfExp c a b pos) ρ μ Φ := fun F σ H hs sl Q kt =>
  se_of (pe_ifExp pt_s pe_s pe_s) (h F σ H hs sl _ fun k F1 H1 μ1 q e1 hs1 => by
    cases k with
    | true =>
      rw [if_pos rfl]
      exact q.1 rfl F1 σ H1 hs1 (sl.mono e1) Q (kt.mono e1)
    | false =>
      rw [if_neg Bool.false_ne_true]
      exact q.2 rfl F1 σ H1 hs1 (sl.mono e1) Q (kt.mono e1))

/-! statements -/
theorem w_nil (k : E.nx ρ μ) : wSs X [] ρ μ E := fun F σ H hs sl D kt => sss_of pss_nil (kt.nx F H σ ρ μ k (Ex.refl F) hs sl)
theorem KontE.nx' {K : KF} {F : Hp} {E : En} {D : Ends} (k : KontE K F E D) {R : Rho → Mu → Prop} {R' : L2.St → Hp → Prop} (h : KontS K F R R') : KontE K F { E with nx := R } { D with nx := R' } := ⟨h, k.rt, k.bk, k.ct⟩
theorem w_cons (h : wS X st ρ μ { E with nx := fun ρ' μ' => wSs X sts ρ' μ' E }) : wSs X (st :: sts) ρ μ E := fun F σ H hs sl D kt =>
  sss_of (pss_cons ps_s pss_s) (h F σ H hs sl _ (kt.nx' fun F1 H1 σ1 ρ1 μ1 q e1 hs1 sl1 => q F1 σ1 H1 hs1 sl1 D (kt.mono e1)))
theorem w_one (h : wS X st ρ μ E) : wSs X [st] ρ μ E := fun F σ H hs sl D kt => sss_of (pss_one ps_s) (h F σ H hs sl D kt)
theorem w_expr (h : wE X e ρ μ fun _ μ1 => E.nx ρ μ1) (hsw : swapsWith e none pos.line X.env = pure false := by rfl) : wS X (.Expr e pos) ρ μ E := fun F σ H hs sl D kt =>
  ss_of (ps_expr pe_s hsw) (h F σ H hs sl _ fun v F1 H1 d μ1 q e1 hs1 _ => kt.nx F1 H1 σ ρ μ1 q e1 hs1 (sl.mono e1))
theorem w_ret (h : wE X e ρ μ E.rt) : wS X (.Return (some e) pos) ρ μ E := fun F σ H hs sl D kt => ss_of (ps_ret pe_s) (h F σ H hs sl _ kt.rt)
theorem w_retN (h : E.rt .non μ) : wS X (.Return none pos) ρ μ E := fun F σ H hs sl D kt => ss_of ps_retN (kt.rt _ F H _ μ h (Ex.refl F) hs .non)
theorem w_pass (h : E.nx ρ μ) : wS X (.Pass pos) ρ μ E := fun F σ H hs sl D kt => ss_of ps_pass (kt.nx F H σ ρ μ h (Ex.refl F) hs sl)
theorem w_brk (h : E.bk ρ μ) : wS X (.Break pos) ρ μ E := fun F σ H hs sl D kt => ss_of ps_break (kt.bk F H σ ρ μ h (Ex.refl F) hs sl)
theorem w_cnt (h : E.ct ρ μ) : wS X (.Continue pos) ρ μ E := fun F σ H hs sl D kt => ss_of ps_continue (kt.ct F H σ ρ μ h (Ex.refl F) hs sl)
theorem w_if (h : wT X c ρ μ fun k μ1 => (k = true → wSs X sts ρ μ1 E) ∧ (k = false → wSs X us ρ μ1 E)) : wS X (.If c sts us pos) ρ μ E := fun F σ H hs sl D kt =>
  ss_of (ps_if pt_s pss_s pss_s) (h F σ H hs sl _ fun k F1 H1 μ1 q e1 hs1 => by
    cases k with
    | true =>
      rw [if_pos rfl]
      exact q.1 rfl F1 σ H1 hs1 (sl.mono e1) D (kt.mono e1)
    | false =>
      rw [if_neg Bool.false_ne_true]
      exact q.2 rfl F1 σ H1 hs1 (sl.mono e1) D (kt.mono e1))
/-- what is known of cells and slots may be said with less -/
theorem wSs_sub {μ' : Mu} (s : μ'.Sublist μ) (h : wSs X sts ρ μ' E) : wSs X sts ρ μ E := fun F σ H hs sl D kt => h F σ H (hs.sub s) sl D kt
/-- a list is changed no more: cell i, which slot j names -/
theorem wSs_fz {i j : Nat} {q : Addr} {ds : List D} (hi : μ[i]? = some (q, .lst ds)) (hj : ρ[j]? = some (some (.ptr q))) (h : wSs X sts (ρ.set j (some (.lst ds))) (μ.eraseIdx i) E) : wSs X sts ρ μ E := fun F σ H hs sl D kt => by
  obtain ⟨F', e1, hs1, r1⟩ := hs.freeze hi
  obtain ⟨v, hv, rv⟩ := sl.at_ j _ hj
  cases rv
  have e2 : σ.set j (some (V.ref q)) = σ := by
    apply List.ext_getElem?
    intro k
    by_cases hk : j = k
    · subst hk
      rw [List.getElem?_set_self (List.getElem?_eq_some_iff.mp hv).1, hv]
    · rw [List.getElem?_set_ne hk]
  have sl1 := (sl.mono e1).set j r1
  rw [e2] at sl1
  exact h F' σ H hs1 sl1 D (kt.mono e1)

/-! targets -/
theorem wg_name (i : Nat) {x : Str} {d : D} (hN : X.N.Nodup) (hi : X.N[i]? = some x) (hx : Loc X.env.scope x) (hf : X.fn x = true ∨ X.env.scope.names.lookup x = some .local) (k : ΦS (ρ.set i (some d)) μ) : wG X (.Name x pos) d ρ μ ΦS := fun F σ H v hs sl r Q kt =>
  sg_of (pg_name hN hi hx hf) (kt F H _ _ μ k (Ex.refl F) hs (sl.set i r))
theorem wgs_nil (k : ΦS ρ μ) : wGs X [] [] ρ μ ΦS := fun F σ H v hs sl r Q kt => by
  cases r
  exact sgs_of pgs_nil ⟨rfl, kt F H σ ρ μ k (Ex.refl F) hs sl⟩
theorem wgs_cons {d : D} {ds : List D} (h : wG X e d ρ μ fun ρ1 μ1 => wGs X es ds ρ1 μ1 ΦS) (hs : (assignEach (e :: es) X.env).map (·.2) = assign e X.env :: (assignEach es X.env).map (·.2) := by rfl) : wGs X (e :: es) (d :: ds) ρ μ ΦS := fun F σ H vs hh sl r Q kt => by
  cases r with
  | cons r rr =>
    exact sgs_of (pgs_cons pg_s pgs_s hs) ⟨_, _, rfl, h F σ H _ hh sl r _ fun F1 H1 σ1 ρ1 μ1 q e1 hs1 sl1 => q F1 σ1 H1 _ hs1 sl1 (rr.mono e1) Q (kt.mono e1)⟩
theorem wg_tup {n : Nat} {ds : List D} (hc : X.calm = true) (hl : ds.length = es.length) (h : wGs X es ds ρ μ ΦS) (hn : (assignEach es X.env).length = es.length := by rfl) (hst : (assignEach es X.env).findIdx? (·.1) = none := by rfl) : wG X (.Tuple es n pos) (.tup ds) ρ μ ΦS := fun F σ H v hs sl r Q kt => by
  cases r with
  | tup h1 h2 => exact sg_of (pg_tup hc pgs_s hn hst) ⟨_, _, rfl, (Evl.st_of (hs.ex _ _ h1)), h2.length.trans hl, h F σ H _ hs sl h2 Q kt⟩
theorem w_asg {tg : Expr} (h : wE X e ρ μ fun d μ1 => wG X tg d ρ μ1 E.nx) (hs : swapsWithSole [tg] e pos.line X.env = pure false := by rfl) (hw : swappedStores [tg] e X.env = pure none := by rfl)
    (h1 : (assignEach [tg] X.env).map (·.2) = [assign tg X.env] := by rfl) : wS X (.Assign [tg] e pos) ρ μ E := fun F σ H hh sl D kt =>
  ss_of (ps_asg pe_s pg_s hs hw h1) (h F σ H hh sl _ fun v F1 H1 d μ1 q e1 hs1 r1 => q F1 σ H1 v hs1 (sl.mono e1) r1 _ (kt.nx.mono e1))
theorem w_set (i : Nat) {x : Str} {q : Pos} (hN : X.N.Nodup) (hi : X.N[i]? = some x) (hx : Loc X.env.scope x) (hf : X.fn x = true ∨ X.env.scope.names.lookup x = some .local) (h : wE X e ρ μ fun d μ1 => E.nx (ρ.set i (some d)) μ1)
    (hs : swapsWith e (some (.Name x q)) pos.line X.env = pure false := by rfl) : wS X (.Assign [.Name x q] e pos) ρ μ E := fun F σ H hh sl D kt =>
  ss_of (ps_set hN hi hx pe_s hs hf) (h F σ H hh sl _ fun v F1 H1 d μ1 q e1 hs1 r1 => kt.nx F1 H1 _ _ μ1 q e1 hs1 ((sl.mono e1).set i r1))
theorem w_par (i j : Nat) {x y : Str} {px py pt : Pos} {kt' k2 : Nat} {pt2 : Pos} (hc : X.calm = true) (hN : X.N.Nodup) (hi : X.N[i]? = some x) (hj : X.N[j]? = some y) (hij : i ≠ j)
    (hx : X.env.scope.names.lookup x = some .local) (hy : X.env.scope.names.lookup y = some .local) (hw : swappedStores [.Tuple [.Name x px, .Name y py] kt' pt] (.Tuple [a, b] k2 pt2) X.env = pure (some [x, y]))
    (h : wA X [a, b] ρ μ fun ds μ1 => ∃ d1 d2, ds = [d1, d2] ∧ E.nx ((ρ.set i (some d1)).set j (some d2)) μ1)
    (hs : swapsWithSole [.Tuple [.Name x px, .Name y py] kt' pt] (.Tuple [a, b] k2 pt2) pos.line X.env = pure false := by rfl) : wS X (.Assign [.Tuple [.Name x px, .Name y py] kt' pt] (.Tuple [a, b] k2 pt2) pos) ρ μ E := fun F σ H hh sl D kt =>
  ss_of (ps_par hc hN hi hj hij hx hy pa_s hw hs) (h F σ H hh sl _ fun vs F1 H1 ds μ1 ⟨d1, d2, hd, q⟩ e1 hs1 r1 => by
    subst hd
    cases r1 with
    | cons r1 rr =>
      cases rr with
      | cons r2 rr =>
        cases rr
        exact ⟨_, _, rfl, kt.nx F1 H1 _ _ μ1 q e1 hs1 (((sl.mono e1).set i r1).set j r2)⟩)

/-! loops -/
theorem w_for {tg iter : Expr} {body : List Stmt} (h : wI X tg iter ρ μ fun its μ1 => ∃ Iv : Nat → Rho → Mu → Prop, Iv 0 ρ μ1 ∧
      (∀ i x ρ' μ', its[i]? = some x → Iv i ρ' μ' → wG X tg x ρ' μ' fun ρ2 μ2 => wSs X body ρ2 μ2 { nx := Iv (i + 1), rt := E.rt, bk := E.nx, ct := Iv (i + 1) }) ∧ (∀ ρ' μ', Iv its.length ρ' μ' → E.nx ρ' μ'))
    (hp : PassesOwn (model X.prog X.w) X.A X.env X.xe) (hc : X.calm = true) (hs : ∀ x, foldedSetIterable iter X.env x = pure x := by intro _; rfl) : wS X (.For tg iter body [] pos) ρ μ E := fun F σ H hh sl D kt =>
  ss_of (ps_for hp hc pi_s pg_s pss_s hs) (h F σ H hh sl _ fun J its F1 μ1 H1 ⟨Iv, h0, ht, hd⟩ e1 hs1 wk => by
    refine ⟨fun i m σ' H' => m = its.length - i ∧ i ≤ its.length ∧ ∃ F' ρ' μ', Ex F1 F' ∧ Hs X.K F' μ' H' ∧ Sl X.K F' ρ' σ' ∧ Iv i ρ' μ', ⟨its.length, by simp, Nat.zero_le _, F1, ρ, μ1, Ex.refl _, hs1, sl.mono e1, h0⟩, ?_⟩
    rintro i m σ' H' ⟨rfl, hi, F', ρ', μ', e2, hs2, sl2, iv⟩
    obtain ⟨w1, w2, w3⟩ := wk i F' μ' H' e2 hs2
    by_cases hlt : i < its.length
    · refine .inr ⟨w1 hlt, fun σ3 H3 => ∃ F3 ρ3 μ3, Ex F1 F3 ∧ Hs X.K F3 μ3 H3 ∧ Sl X.K F3 ρ3 σ3 ∧ Iv (i + 1) ρ3 μ3, fun σ3 H3 q => ⟨its.length - (i + 1), by omega, rfl, hlt, q⟩, fun x H3 hy => ?_⟩
      have hx : its[i]? = some its[i] := List.getElem?_eq_getElem hlt
      obtain ⟨F3, e3, hs3, r3⟩ := w3 x H3 _ hy hx
      refine ht i _ ρ' μ' hx iv F3 σ' H3 x hs3 (sl2.mono e3) r3 _ fun F4 H4 σ4 ρ4 μ4 q4 e4 hs4 sl4 => ?_
      have up : ∀ {F5 : Hp}, Ex F4 F5 → Ex F1 F5 := fun z => e2.trans (e3.trans (e4.trans z))
      refine q4 F4 σ4 H4 hs4 sl4 _ ⟨fun F5 H5 σ5 ρ5 μ5 q5 e5 hs5 sl5 => ⟨F5, ρ5, μ5, up e5, hs5, sl5, q5⟩, ?_, ?_, fun F5 H5 σ5 ρ5 μ5 q5 e5 hs5 sl5 => ⟨F5, ρ5, μ5, up e5, hs5, sl5, q5⟩⟩
      · exact kt.rt.mono (e1.trans (up (Ex.refl _)))
      · exact kt.nx.mono (e1.trans (up (Ex.refl _)))
    · have he : i = its.length := by omega
      subst he
      exact .inl ⟨w2 rfl, kt.nx F' H' σ' ρ' μ' (hd ρ' μ' iv) (e1.trans e2) hs2 sl2⟩)
theorem w_while {body : List Stmt} (Iv : Nat → Rho → Mu → Prop) (m0 : Nat) (h0 : Iv m0 ρ μ)
    (ht : ∀ m ρ' μ', Iv m ρ' μ' → wT X c ρ' μ' fun k μ1 => (k = true → wSs X body ρ' μ1 { nx := fun ρ2 μ2 => ∃ m', m' < m ∧ Iv m' ρ2 μ2, rt := E.rt, bk := E.nx, ct := fun ρ2 μ2 => ∃ m', m' < m ∧ Iv m' ρ2 μ2 }) ∧ (k = false → E.nx ρ' μ1))
    (hp : PassesOwn (model X.prog X.w) X.A X.env X.xe) : wS X (.While c body [] pos) ρ μ E := fun F σ H hh sl D kt =>
  ss_of (ps_while hp pt_s pss_s) (by
    refine ⟨fun m σ' H' => ∃ F' ρ' μ', Ex F F' ∧ Hs X.K F' μ' H' ∧ Sl X.K F' ρ' σ' ∧ Iv m ρ' μ', ⟨m0, F, ρ, μ, Ex.refl _, hh, sl, h0⟩, ?_⟩
    rintro m σ' H' ⟨F', ρ', μ', e2, hs2, sl2, iv⟩
    refine ht m ρ' μ' iv F' σ' H' hs2 sl2 _ fun k F3 H3 μ3 q e3 hs3 => ?_
    cases k with
    | true =>
      refine ⟨fun σ4 H4 => ∃ m', m' < m ∧ ∃ F4 ρ4 μ4, Ex F F4 ∧ Hs X.K F4 μ4 H4 ∧ Sl X.K F4 ρ4 σ4 ∧ Iv m' ρ4 μ4, fun σ4 H4 ⟨m', h1, h2⟩ => ⟨m', h1, h2⟩, ?_⟩
      refine q.1 rfl F3 σ' H3 hs3 (sl2.mono e3) _ ⟨fun F5 H5 σ5 ρ5 μ5 ⟨m', h1, h2⟩ e5 hs5 sl5 => ⟨m', h1, F5, ρ5, μ5, e2.trans (e3.trans e5), hs5, sl5, h2⟩, kt.rt.mono (e2.trans e3), kt.nx.mono (e2.trans e3), fun F5 H5 σ5 ρ5 μ5 ⟨m', h1, h2⟩ e5 hs5 sl5 => ⟨m', h1, F5, ρ5, μ5, e2.trans (e3.trans e5), hs5, sl5, h2⟩⟩
    | false => exact kt.nx F3 H3 σ' ρ' μ3 (q.2 rfl) (e2.trans e3) hs3 (sl2.mono e3))

/-! what is walked -/
theorem wi_lst {tg : Expr} {ΦI : List D → Mu → Prop} (h : wE X e ρ μ fun d μ1 => ∃ ds, d = .lst ds ∧ ΦI ds μ1) : wI X tg e ρ μ ΦI := fun F σ H hs sl R kt =>
  si_of (pi_list pe_s) (h F σ H hs sl _ fun v F1 H1 d μ1 ⟨ds, hd, q⟩ e1 hs1 r1 => by
    subst hd
    cases r1 with
    | lst g r =>
      rename_i a xs
      refine ⟨a, rfl, ⟨xs, Evl.ex_l hs1.ex (Evl.sq_of g)⟩, kt _ ds F1 μ1 H1 q e1 hs1 fun i F' μ' H' e' hs' => ?_⟩
      have g' : SqL X.K H' a xs := Evl.ex_l hs'.ex (Evl.ex_l e' (Evl.sq_of g))
      refine ⟨fun hi => ⟨xs, xs[i]'(by rw [r.length]; exact hi), g', List.getElem?_eq_getElem _⟩, fun hi => ⟨xs, g', by rw [r.length]; exact Nat.le_of_eq hi.symm⟩, fun x H2 d hy hd => ?_⟩
      obtain ⟨rfl, fy⟩ := hy
      obtain ⟨y, h1, h2⟩ := r.get hd
      cases (fy _ g').symm.trans h1
      exact ⟨F', Ex.refl _, hs', h2.mono e'⟩)
theorem wi_scr {tg : Expr} {ΦI : List D → Mu → Prop} (h : wE X e ρ μ fun d μ1 => ∃ ds, d = .scr ds ∧ ΦI ds μ1) : wI X tg e ρ μ ΦI := fun F σ H hs sl R kt =>
  si_of (pi_list pe_s) (h F σ H hs sl _ fun v F1 H1 d μ1 ⟨ds, hd, q⟩ e1 hs1 r1 => by
    subst hd
    cases r1 with
    | scr g r =>
      rename_i a xs
      refine ⟨a, rfl, ⟨xs, Evl.ex_l hs1.ex g⟩, kt _ ds F1 μ1 H1 q e1 hs1 fun i F' μ' H' e' hs' => ?_⟩
      have g' : SqL X.K H' a xs := Evl.ex_l hs'.ex (Evl.ex_l e' g)
      refine ⟨fun hi => ⟨xs, xs[i]'(by rw [r.length]; exact hi), g', List.getElem?_eq_getElem _⟩, fun hi => ⟨xs, g', by rw [r.length]; exact Nat.le_of_eq hi.symm⟩, fun x H2 d hy hd => ?_⟩
      obtain ⟨rfl, fy⟩ := hy
      obtain ⟨y, h1, h2⟩ := r.get hd
      cases (fy _ g').symm.trans h1
      exact ⟨F', Ex.refl _, hs', h2.mono e'⟩)
theorem wi_tup {tg : Expr} {ΦI : List D → Mu → Prop} (h : wE X e ρ μ fun d μ1 => ∃ ds, d = .tup ds ∧ ΦI ds μ1) : wI X tg e ρ μ ΦI := fun F σ H hs sl R kt =>
  si_of (pi_tup pe_s) (h F σ H hs sl _ fun v F1 H1 d μ1 ⟨ds, hd, q⟩ e1 hs1 r1 => by
    subst hd
    cases r1 with
    | tup g r =>
      rename_i a xs
      refine ⟨a, rfl, ⟨xs, (Evl.st_of (hs1.ex _ _ g))⟩, kt _ ds F1 μ1 H1 q e1 hs1 fun i F' μ' H' e' hs' => ?_⟩
      have g' : SqT X.K H' a xs := Evl.ex_t hs'.ex ((Evl.st_of (e' _ _ g)))
      refine ⟨fun hi => ⟨xs, xs[i]'(by rw [r.length]; exact hi), g', List.getElem?_eq_getElem _⟩, fun hi => ⟨xs, g', by rw [r.length]; exact Nat.le_of_eq hi.symm⟩, fun x H2 d hy hd => ?_⟩
      obtain ⟨rfl, fy⟩ := hy
      obtain ⟨y, h1, h2⟩ := r.get hd
      cases (fy _ g').symm.trans h1
      exact ⟨F', Ex.refl _, hs', h2.mono e'⟩)
/-- the numbers lo, lo + 1, .. -/
def rngD (lo : Int) (n : Nat) : List D := (List.range n).map fun i : Nat => D.int (lo + (i : Int))
theorem rngD_get {lo : Int} {n i : Nat} {d : D} (h : (rngD lo n)[i]? = some d) : i < n ∧ d = .int (lo + (i : Int)) := by
  unfold rngD at h
  rw [List.getElem?_map] at h
  by_cases hi : i < n
  · rw [List.getElem?_range hi] at h
    cases h
    exact ⟨hi, rfl⟩
  · rw [List.getElem?_eq_none (by rw [List.length_range]; omega)] at h
    cases h
theorem rngD_len {lo : Int} {n : Nat} : (rngD lo n).length = n := by unfold rngD; rw [List.length_map, List.length_range]
theorem wk_rng {K : KF} {F : Hp} {lo : Int} {n : Nat} : Wk K F (Itr lo n) (rngD lo n) := fun i F' μ' H' e' hs' => by
  rw [rngD_len]
  refine ⟨fun hi => hi, fun hi => Nat.le_of_eq hi.symm, fun x H2 d hy hd => ?_⟩
  obtain ⟨rfl, rfl⟩ := hy
  obtain ⟨_, rfl⟩ := rngD_get hd
  exact ⟨F', Ex.refl _, hs', .int _⟩
theorem wi_rng1 {tg : Expr} {ΦI : List D → Mu → Prop} (hm : X.mg "range" = none) (h : wE X a ρ μ fun d μ1 => ∃ j : Int, d = .int j ∧ (0 ≤ j ∧ j ≤ 100000000) ∧ ΦI (rngD 0 j.toNat) μ1) (hg : Gl X "range" := by rfl) (hs : starEach [a] X.env = [(false, eval a X.env)] := by rfl) : wI X tg (.Call (.Name "range" p) [a] [] pos) ρ μ ΦI := fun F σ H hh sl R kt =>
  si_of (pi_range1 hg hm (pa_cons pe_s pa_nil hs) hs) (h F σ H hh sl _ fun v F1 H1 d μ1 ⟨j, hd, hj, q⟩ e1 hs1 r1 => by
    subst hd
    cases r1
    exact ⟨j, rfl, by omega, by omega, kt _ _ F1 μ1 H1 q e1 hs1 wk_rng⟩)
theorem wi_rng2 {tg : Expr} {ΦI : List D → Mu → Prop} (hm : X.mg "range" = none) (h : wE X a ρ μ fun d μ1 => wE X b ρ μ1 fun d' μ2 => ∃ i j : Int, d = .int i ∧ d' = .int j ∧ (-100000000 ≤ i ∧ i ≤ 100000000 ∧ -100000000 ≤ j ∧ j ≤ 100000000) ∧ ΦI (rngD i (j - i).toNat) μ2) (hg : Gl X "range" := by rfl)
    (hs : starEach [a, b] X.env = [(false, eval a X.env), (false, eval b X.env)] := by rfl) (hs2 : starEach [b] X.env = [(false, eval b X.env)] := by rfl) : wI X tg (.Call (.Name "range" p) [a, b] [] pos) ρ μ ΦI := fun F σ H hh sl R kt =>
  si_of (pi_range2 hg hm (pa_cons pe_s (pa_cons pe_s pa_nil hs2) (by rw [hs, hs2])) hs hs2) (h F σ H hh sl _ fun v F1 H1 d μ1 q1 e1 hs1 r1 => q1 F1 σ H1 hs1 (sl.mono e1) _ fun u F2 H2 d' μ2 ⟨i, j, hd, hd', hb, q⟩ e2 hs2' r2 => by
    subst hd
    subst hd'
    cases r1
    cases r2
    exact ⟨i, j, rfl, ⟨by omega, by omega, by omega, by omega⟩, kt _ _ F2 μ2 H2 q (e1.trans e2) hs2' wk_rng⟩)
theorem wi_str {tg : Expr} {ΦI : List D → Mu → Prop} (h : wE X e ρ μ fun d μ1 => ∃ z : Str, d = .str z ∧ ΦI (z.cps.toList.map fun c => .str ⟨#[c]⟩) μ1) : wI X tg e ρ μ ΦI := fun F σ H hs sl R kt =>
  si_of (pi_str pe_s) (h F σ H hs sl _ fun v F1 H1 d μ1 ⟨z, hd, q⟩ e1 hs1 r1 => by
    subst hd
    cases r1
    refine ⟨z, rfl, kt _ _ F1 μ1 H1 q e1 hs1 fun i F' μ' H' e' hs' => ?_⟩
    rw [List.length_map, Array.length_toList]
    refine ⟨fun hi => hi, fun hi => Nat.le_of_eq hi.symm, fun x H2 d hy hd => ?_⟩
    obtain ⟨rfl, c, hc, rfl⟩ := hy
    rw [List.getElem?_map, Array.getElem?_toList, hc] at hd
    cases hd
    exact ⟨F', Ex.refl _, hs', .str _⟩)
/-! enumerate of a text -/
def Ites (x : Str) : It := ⟨fun i _ => i < x.cps.size, fun i H v H' => ∃ T c, x.cps[i]? = some c ∧ v = .ref T ∧ H T = none ∧ H' = upd H T (.tup [.int (i : Nat), .str ⟨#[c]⟩]), fun i _ => i = x.cps.size⟩
theorem turn_enumS {P : Program} {w : World} {K : PySem.W.Frag} {elts : List Expr} {kk : Nat} {tpos : Pos} (x : Str) (t : Tok) (e it : Addr) (hne : e ≠ it) :
    Turn P w K (.Tuple elts kk tpos) (Ites x) [e, it] e (fun i h => (∃ old, IsEnum h e it (0 + (i : Int)) old) ∧ h.IsStrIter it (strIterType x) x t i) where
  mem := by simp
  obj := fun i h st b hb => by
    obtain ⟨⟨old, he⟩, ⟨o, ho, hc, hd⟩⟩ := st
    rcases List.mem_cons.mp hb with z | z
    · subst z; exact ⟨_, he, fun v q => nomatch q⟩
    · rcases List.mem_cons.mp z with z | z
      · subst z; exact ⟨o, ho, fun v q => by rw [hd] at q; cases q⟩
      · cases z
  keep := fun i h h' st k => by
    obtain ⟨⟨old, he⟩, ⟨o, ho, r⟩⟩ := st
    exact ⟨⟨old, k e (by simp) _ he⟩, ⟨o, k it (by simp) o ho, r⟩⟩
  item := by
    intro Y hP hw hK hc i pins s σ H E I hf st hg
    subst hP hw hK
    have G := GoesN.enumFrom (prog := Y.prog) (w := Y.w) (A := Y.A) (elts := elts) (x1 := kk) (pos := tpos) 0 (Draws.text (A := Y.A.in1) (I.ok.hd hc) it x t) e hne (by simpa using hne) (by simp)
    refine G.goes i s _ E hg st fun v h' tk hY st' hk htk => ?_
    obtain ⟨T, t', u, rfl, hT, ⟨c, t'', hcx, rfl⟩, hv⟩ := hY
    have new : ObjOk Y.prog Y.w (upd H T (.tup [.int (i : Nat), .str ⟨#[c]⟩])) h' T (.tup [.int (i : Nat), .str ⟨#[c]⟩]) :=
      ⟨by show 2 ≤ sizeLine; decide, [.int (0 + (i : Int)) t', .str ⟨#[c]⟩ t''], .cons ⟨t', by rw [Int.zero_add]⟩ (.cons ⟨_, rfl⟩ .nil), hv⟩
    have I1 := I.turnedNew (t' := tk) (ch := [e, it]) hk hf hT new
    refine ⟨.ref T, _, I1, rfl, ⟨T, c, hcx, rfl, I.hok.fresh hT, rfl⟩, st', fun b hb => ?_⟩
    have hlt : b < s.heap.objs.size := by
      obtain ⟨⟨old, he⟩, ⟨o, ho, _⟩⟩ := st
      rcases List.mem_cons.mp hb with z | z
      · subst z; exact Heap.lt_size he
      · rcases List.mem_cons.mp z with z | z
        · subst z; exact Heap.lt_size ho
        · cases z
    rw [upd_ne (Nat.ne_of_lt (Nat.lt_of_lt_of_le hlt hT))]
    exact (hf b hb).1
  done := by
    intro Y hP hw hK hc i pins s σ H E I hf st hg
    subst hP hw hK
    have hg' : i = x.cps.size := hg
    subst hg'
    have G := GoesN.enumFrom (prog := Y.prog) (w := Y.w) (A := Y.A) (elts := elts) (x1 := kk) (pos := tpos) 0 (Draws.text (A := Y.A.in1) (I.ok.hd hc) it x t) e hne (by simpa using hne) (by simp)
    refine G.stops s _ E st fun h' tk hk htk => ?_
    exact I.turnedL hk hf
  self := fun A i s Q E st h => let ⟨⟨_, he⟩, _⟩ := st; wpAny_pyIter_enum he h
end
section
variable {X : Cy} {e a b c elt tg iter : Expr} {es ifs : List Expr} {st : Stmt} {sts us : List Stmt} {ρ : Rho} {μ : Mu} {Φ : D → Mu → Prop} {ΦT : Bool → Mu → Prop} {ΦA : List D → Mu → Prop} {ΦS : Rho → Mu → Prop} {E : En} {pos p : Pos}
def iEnumS (ta : TA) : TI := fun σ H R => ta σ H fun vs H1 => ∃ x, vs = [.str x] ∧ R (Ites x) H1
theorem pi_enumS {ta : TA} {tpos : Pos} {elts : List Expr} {kk : Nat} (hg : Gl X "enumerate") (hm : X.mg "enumerate" = none) (ha : PA X [e] ta) (hs : starEach [e] X.env = [(false, eval e X.env)] := by rfl) : PI X (.Tuple elts kk tpos) (.Call (.Name "enumerate" p) [e] [] pos) (iEnumS ta) := by
  refine ⟨fun pins s σ H R I h => ?_⟩
  refine PyProof.Rows.Call_ (ld_blt I hg hm PyProof.Rows.boot_enumerate (PyProof.Rows.callWith_type1 (thn (ha.run pos pins s σ H _ I h) fun us s1 hq => ?_) hs rfl))
  obtain ⟨vs, H1, I1, r1, x, rfl, q⟩ := hq
  cases r1 with
  | cons r rr =>
    cases rr
    obtain ⟨t, rfl⟩ := r
    refine call_enumerate_str fun h' he hit hsz hk => wpAny_pyIter_enum he ?_
    have I2 : Inv X pins σ H1 { s1 with heap := h' } := I1.kept (t' := s1.toks) hk
    refine ⟨s1.heap.objs.size + 1, [s1.heap.objs.size + 1, s1.heap.objs.size], _, _, H1, rfl, I2, turn_enumS x t (s1.heap.objs.size + 1) s1.heap.objs.size (Nat.succ_ne_self _), ⟨⟨.none, he⟩, hit⟩, fun b hb => ?_, q⟩
    have hle : s1.heap.objs.size ≤ b := by
      rcases List.mem_cons.mp hb with z | z
      · rw [z]; exact Nat.le_succ _
      · rcases List.mem_cons.mp z with z | z
        · rw [z]; exact Nat.le_refl _
        · cases z
    exact I1.fpOk hle (I1.hok.fresh hle)
/-- the pairs of a place and a sign -/
def enumS (z : Str) : List D := (List.range z.cps.size).map fun i : Nat => .tup [.int i, .str ⟨#[z.cps.getD i 0]⟩]
theorem enumS_get {z : Str} {i : Nat} {d : D} (h : (enumS z)[i]? = some d) : ∃ c, z.cps[i]? = some c ∧ d = .tup [.int i, .str ⟨#[c]⟩] := by
  unfold enumS at h
  rw [List.getElem?_map] at h
  by_cases hi : i < z.cps.size
  · rw [List.getElem?_range hi] at h
    cases h
    refine ⟨z.cps[i], Array.getElem?_eq_getElem hi, ?_⟩
    simp [hi]
  · rw [List.getElem?_eq_none (by rw [List.length_range]; omega)] at h
    cases h
theorem enumS_len {z : Str} : (enumS z).length = z.cps.size := by unfold enumS; rw [List.length_map, List.length_range]
theorem wi_enumS {tpos : Pos} {elts : List Expr} {kk : Nat} {ΦI : List D → Mu → Prop} (hm : X.mg "enumerate" = none) (h : wE X e ρ μ fun d μ1 => ∃ z : Str, d = .str z ∧ ΦI (enumS z) μ1) (hg : Gl X "enumerate" := by rfl) (hs : starEach [e] X.env = [(false, eval e X.env)] := by rfl) : wI X (.Tuple elts kk tpos) (.Call (.Name "enumerate" p) [e] [] pos) ρ μ ΦI := fun F σ H hh sl R kt =>
  si_of (pi_enumS hg hm (pa_cons pe_s pa_nil hs) hs) (h F σ H hh sl _ fun v F1 H1 d μ1 ⟨z, hd, q⟩ e1 hs1 r1 => by
    subst hd
    cases r1
    refine ⟨z, rfl, kt _ _ F1 μ1 H1 q e1 hs1 fun i F' μ' H' e' hs' => ?_⟩
    rw [enumS_len]
    refine ⟨fun hi => hi, fun hi => hi, fun x H2 d hy hd => ?_⟩
    · obtain ⟨T, c, hc, rfl, hT, rfl⟩ := hy
      obtain ⟨c', hc', rfl⟩ := enumS_get hd
      cases hc.symm.trans hc'
      obtain ⟨g1, g2⟩ := hs'.laid (u := .tup [.int (i : Nat), .str ⟨#[c]⟩]) hT
      exact ⟨_, g2, g1, .tup upd_same (.cons (.int _) (.cons (.str _) .nil))⟩)

/-! comprehensions -/
def wipeR (ρ : Rho) : List Nat → Rho
  | [] => ρ
  | v :: vs => (wipeR ρ vs).set v none
theorem Sl.wipeL {K : PySem.W.Frag} {F : Hp} {ρ : Rho} {σ : L2.St} (s : Sl K F ρ σ) : ∀ vs : List Nat, Sl K F (wipeR ρ vs) (L2.wipe σ vs)
  | [] => s
  | v :: vs => (s.wipeL vs).wipe v
theorem wipe_get {σ : L2.St} : ∀ (vs : List Nat) (k : Nat), (wipe σ vs)[k]? = if k ∈ vs then σ[k]?.map (fun _ => none) else σ[k]?
  | [], k => by simp [wipe]
  | v :: vs, k => by
    unfold wipe
    rw [List.getElem?_set]
    have ih := wipe_get (σ := σ) vs k
    by_cases hk : v = k
    · subst hk
      rw [if_pos rfl, if_pos List.mem_cons_self, wipe_length]
      by_cases hl : v < σ.length
      · rw [if_pos hl, List.getElem?_eq_getElem hl]; rfl
      · rw [if_neg hl, List.getElem?_eq_none (by omega)]; rfl
    · rw [if_neg hk, ih]
      have : (k ∈ v :: vs) = (k ∈ vs) := by simp [List.mem_cons, Ne.symm hk]
      simp [this]
theorem wipe_setw {σ σ1 : L2.St} {vs : List Nat} {j : Nat} {x : Option V} (h : j ∈ vs) (e : wipe σ1 vs = wipe σ vs) : wipe (σ1.set j x) vs = wipe σ vs := by
  rw [← e]
  apply List.ext_getElem?
  intro k
  rw [wipe_get, wipe_get, List.getElem?_set]
  by_cases hk : k ∈ vs
  · rw [if_pos hk, if_pos hk]
    by_cases hj : j = k
    · subst hj
      rw [if_pos rfl]
      by_cases hl : j < σ1.length
      · rw [if_pos hl, List.getElem?_eq_getElem hl]; rfl
      · rw [if_neg hl, List.getElem?_eq_none (by omega)]
    · rw [if_neg hj]
  · have hj : j ≠ k := fun z => hk (z ▸ h)
    rw [if_neg hk, if_neg hk, if_neg hj]
theorem wipe_idem {σ : L2.St} {vs : List Nat} : wipe (wipe σ vs) vs = wipe σ vs := by
  apply List.ext_getElem?
  intro k
  rw [wipe_get, wipe_get]
  by_cases hk : k ∈ vs
  · rw [if_pos hk, if_pos hk]; cases σ[k]? <;> rfl
  · rw [if_neg hk, if_neg hk]
/-- the tests of a clause -/
def wTs (X : Cy) (ifs : List Expr) (ρ : Rho) (μ : Mu) (ΦT : Bool → Mu → Prop) : Prop := match ifs with
  | [] => ΦT true μ
  | [c] => wT X c ρ μ ΦT
  | _ => False
def sTs (X : Cy) (ifs : List Expr) : TT := fun σ H Q => ∀ (pins : List (Addr × Obj)) (s : Shared), Inv X pins σ H s →
    wpAny (model X.prog X.w) X.A (forIn ifs true fun c r => if r = true then do let ok ← isTrue c X.env (eval c X.env); pure (ForInStep.yield ok) else pure (ForInStep.yield r)) (TP X pins σ Q) X.xe s
theorem pts_s {ifs : List Expr} : PTs X ifs (sTs X ifs) := ⟨fun pins s σ H Q I h => h pins s I⟩
theorem sts_of {t : TT} (p : PTs X ifs t) {σ : L2.St} {H : Hp} {Q : Bool → Hp → Prop} (h : t σ H Q) : sTs X ifs σ H Q := fun pins s I => p.run pins s σ H Q I h
theorem wTs.go (h : wTs X ifs ρ μ ΦT) {F : Hp} {σ : L2.St} {H : Hp} (hs : Hs X.K F μ H) (sl : Sl X.K F ρ σ) {Q : Bool → Hp → Prop} (kt : KontT X.K F ΦT Q) : sTs X ifs σ H Q := by
  match ifs, h with
  | [], h => exact sts_of pts_nil (kt true F H μ h (Ex.refl F) hs)
  | [c], h => exact sts_of (pts_one pt_s) (h F σ H hs sl Q kt)
/-- the targets of a comprehension: a name, or a tuple of names, by their places -/
inductive Tg where
  | one (j : Nat) | two (j k : Nat) | tree (j k l : Nat)
def Tg.slots : Tg → List Nat
  | .one j => [j]
  | .two j k => [j, k]
  | .tree j k l => [j, k, l]
def Tg.put : Tg → D → Rho → Option Rho
  | .one j, d, ρ => some (ρ.set j (some d))
  | .two j k, .tup [d, e], ρ => some ((ρ.set j (some d)).set k (some e))
  | .tree j k l, .tup [d, e, f], ρ => some (((ρ.set j (some d)).set k (some e)).set l (some f))
  | _, _, _ => none
def Tg.g (K : PySem.W.Frag) : Tg → TG
  | .one j => gName j
  | .two j k => gTup K 2 (gCons (gName j) (gCons (gName k) gNil))
  | .tree j k l => gTup K 3 (gCons (gName j) (gCons (gName k) (gCons (gName l) gNil)))
/-- the contexts of a block -/
abbrev blkE (X : Cy) (scope : Scope) (s : Shared) (H : Hp) (C : Addr) (cl : List (Str × Addr)) (fp : List Addr) : Cy := ⟨X.c.blk s H scope (compEnvC scope cl C X.env) fp, X.g⟩
theorem Tg.run {t : Tg} {K : KF} {F : Hp} {v : V} {d : D} {ρ ρ' : Rho} {σ : L2.St} {μ : Mu} {H : Hp} {vs : List Nat} {Q : L2.St → Hp → Prop} (hs : Hs K F μ H) (sl : Sl K F (wipeR ρ vs) (wipe σ vs)) (r : Rep K F v d) (hv : ∀ j ∈ t.slots, j ∈ vs) (hp : t.put d (wipeR ρ vs) = some ρ')
    (k : ∀ σ', wipe σ' vs = wipe σ vs → Sl K F ρ' σ' → Q σ' H) : t.g K v (wipe σ vs) H Q := by
  match t, d, hp with
  | .one j, d, hp =>
    cases hp
    exact k _ (wipe_setw (hv j (by simp [Tg.slots])) wipe_idem) (sl.set j r)
  | .two i j, .tup [d, e], hp =>
    cases hp
    cases r with
    | tup g r =>
      cases r with
      | cons r1 r =>
        cases r with
        | cons r2 r =>
          cases r
          exact ⟨_, _, rfl, (Evl.st_of (hs.ex _ _ g)), rfl, _, _, rfl, _, _, rfl, rfl, k _ (wipe_setw (hv j (by simp [Tg.slots])) (wipe_setw (hv i (by simp [Tg.slots])) wipe_idem)) ((sl.set i r1).set j r2)⟩
  | .tree i j l, .tup [d, e, f], hp =>
    cases hp
    cases r with
    | tup g r =>
      cases r with
      | cons r1 r =>
        cases r with
        | cons r2 r =>
          cases r with
          | cons r3 r =>
            cases r
            exact ⟨_, _, rfl, (Evl.st_of (hs.ex _ _ g)), rfl, _, _, rfl, _, _, rfl, _, _, rfl, rfl, k _ (wipe_setw (hv l (by simp [Tg.slots])) (wipe_setw (hv j (by simp [Tg.slots])) (wipe_setw (hv i (by simp [Tg.slots])) wipe_idem))) (((sl.set i r1).set j r2).set l r3)⟩
/-- [elt for tg in iter if ..]: Iv speaks of the turn, the list so far, the cells; the new list's cell p stands ahead of them -/
def LcW (X : Cy) (elt tg iter : Expr) (ifs : List Expr) (scope : Scope) (t : Tg) (vs : List Nat) (ρ : Rho) (μ : Mu) (Φ : D → Mu → Prop) : Prop :=
  wI X tg iter ρ μ fun its μ1 => its.length ≤ 1000000 ∧ ∃ Iv : Nat → List D → Mu → Prop, Iv 0 [] μ1 ∧
    (∀ p i x acc μ2, its[i]? = some x → Iv i acc μ2 → ∃ ρ', t.put x (wipeR ρ vs) = some ρ' ∧ ∀ s H C cl fp, wTs (blkE X scope s H C cl fp) ifs ρ' ((p, .lst acc) :: μ2) fun k μ4 =>
      (k = true → ∀ s H C cl fp, wE (blkE X scope s H C cl fp) elt ρ' μ4 fun d μ5 => ∃ μ6, μ5 = (p, .lst acc) :: μ6 ∧ Iv (i + 1) (acc ++ [d]) μ6) ∧ (k = false → ∃ μ6, μ4 = (p, .lst acc) :: μ6 ∧ Iv (i + 1) acc μ6)) ∧
    (∀ p acc μ2, Iv its.length acc μ2 → Φ (.ptr p) ((p, .lst acc) :: μ2))
def sTsF (X : Cy) (scope : Scope) (ifs : List Expr) : TT := fun σ H Q => ∀ s H' C cl fp, sTs (blkE X scope s H' C cl fp) ifs σ H Q
def sEF (X : Cy) (scope : Scope) (elt : Expr) : TE := fun σ H Q => ∀ s H' C cl fp, sE (blkE X scope s H' C cl fp) elt σ H Q
theorem lc_t {scope : Scope} {t : Tg} {vs : List Nat} (hv : ∀ j ∈ t.slots, j ∈ vs) (h : LcW X elt tg iter ifs scope t vs ρ μ Φ) {F : Hp} {σ : L2.St} {H : Hp} (hs : Hs X.K F μ H) (sl : Sl X.K F ρ σ) {Q : VK} (kt : Kont X.K F Φ Q) :
    tLc (sI X tg iter) (t.g X.K) (sTsF X scope ifs) (sEF X scope elt) vs σ H Q := by
  refine h F σ H hs sl _ fun J its F1 μ1 H1 ⟨hz, Iv, h0, ht, hd⟩ e1 hs1 wk Dl hD => ?_
  refine ⟨fun i m H' => m = its.length - i ∧ i ≤ its.length ∧ ∃ F' acc μ', Ex F1 F' ∧ Hs X.K F' ((Dl, .lst acc) :: μ') H' ∧ acc.length ≤ i ∧ Iv i acc μ', ⟨its.length, by simp, Nat.zero_le _, F1, [], μ1, Ex.refl _, hs1.cell hD (.lst .nil), Nat.le_refl _, h0⟩, ?_⟩
  rintro i m H' ⟨rfl, hi, F', acc, μ', e2, hs2, hl, iv⟩
  obtain ⟨w1, w2, w3⟩ := wk i F' _ H' e2 hs2
  by_cases hlt : i < its.length
  · refine .inr ⟨w1 hlt, fun H3 => ∃ F3 acc3 μ3, Ex F1 F3 ∧ Hs X.K F3 ((Dl, .lst acc3) :: μ3) H3 ∧ acc3.length ≤ i + 1 ∧ Iv (i + 1) acc3 μ3, fun H3 q => ⟨its.length - (i + 1), by omega, rfl, hlt, q⟩, fun x H3 hy => ?_⟩
    have hx : its[i]? = some its[i] := List.getElem?_eq_getElem hlt
    obtain ⟨F3, e3, hs3, r3⟩ := w3 x H3 _ hy hx
    obtain ⟨ρ', hp, ht⟩ := ht Dl i _ acc μ' hx iv
    refine Tg.run hs3 ((sl.mono (e1.trans (e2.trans e3))).wipeL vs) r3 hv hp fun σ' hw sl' => ⟨hw, fun s' H' C cl fp => ?_⟩
    refine (ht s' H' C cl fp).go hs3 sl' fun k F4 H4 μ4 q4 e4 hs4 => ?_
    cases k with
    | true =>
      rw [if_pos rfl]
      refine fun s' H' C cl fp => q4.1 rfl s' H' C cl fp F4 σ' H4 hs4 (sl'.mono e4) _ fun v F5 H5 d μ5 ⟨μ6, h6, iv6⟩ e5 hs5 r5 => ?_
      subst h6
      obtain ⟨xs, hx5, rx5⟩ := hs5.lst (i := 0) rfl
      refine ⟨xs, hx5, Nat.lt_of_le_of_lt ?_ (show 1000000 < sizeLine by decide), F5, acc ++ [d], μ6, e2.trans (e3.trans (e4.trans e5)), hs5.write (i := 0) rfl (.lst (rx5.append (.one r5))), ?_, iv6⟩
      · rw [rx5.length]
        omega
      · rw [List.length_append]
        exact Nat.succ_le_succ hl
    | false =>
      rw [if_neg Bool.false_ne_true]
      obtain ⟨μ6, h6, iv6⟩ := q4.2 rfl
      subst h6
      exact ⟨F4, acc, μ6, e2.trans (e3.trans e4), hs4, Nat.le_succ_of_le hl, iv6⟩
  · have he : i = its.length := by omega
    subst he
    exact .inl ⟨w2 rfl, kt _ F' H' _ _ (hd Dl acc μ' iv) (e1.trans e2) hs2 (.ptr Dl)⟩
theorem w_lcM {scope : Scope} {own : List (Str × Nat)} (t : Tg) (hv : ∀ j ∈ t.slots, j ∈ own.map (·.2)) (hc : X.calm = true) (hN : X.N.Nodup) (ok : BlkOk X.N X.env.scope scope own)
    (hg : ∀ s H C cl fp, PG (blkE X scope s H C cl fp) tg (t.g X.K)) (h : LcW X elt tg iter ifs scope t (own.map (·.2)) ρ μ Φ) (hs : ∀ x, foldedSetIterable iter X.env x = pure x := by intro _; rfl) :
    wE X (.ListComp elt [⟨tg, iter, ifs, 0⟩] scope pos) ρ μ Φ := fun F σ H hh sl Q kt =>
  se_of (pe_lc hc hN pi_s ok hg (fun s H C cl fp => ⟨fun pins s' σ H Q I q => q s _ C cl fp pins s' I⟩) (fun s H C cl fp => ⟨fun pins s' σ H Q I q => q s _ C cl fp pins s' I⟩) hs) (lc_t hv h hh sl kt)
theorem w_setLc {scope : Scope} {own : List (Str × Nat)} (i : Nat) {y : Str} {py spos : Pos} (t : Tg) (hv : ∀ j ∈ t.slots, j ∈ own.map (·.2)) (hc : X.calm = true) (hN : X.N.Nodup) (hy : X.N[i]? = some y) (hyl : X.env.scope.names.lookup y = some .local) (ok : BlkOk X.N X.env.scope scope own)
    (hsw : swapsWith (.ListComp elt [⟨tg, iter, ifs, 0⟩] scope pos) (some (.Name y py)) spos.line X.env = pure true)
    (hg : ∀ s H C cl fp, PG (blkE X scope s H C cl fp) tg (t.g X.K)) (h : LcW X elt tg iter ifs scope t (own.map (·.2)) ρ μ fun d μ1 => ∃ p acc μ2, d = .ptr p ∧ μ1 = (p, .lst acc) :: μ2 ∧ (E.nx (ρ.set i (some (.lst acc))) μ2 ∨ E.nx (ρ.set i (some (.ptr p))) ((p, .lst acc) :: μ2)))
    (hs : ∀ x, foldedSetIterable iter X.env x = pure x := by intro _; rfl) :
    wS X (.Assign [.Name y py] (.ListComp elt [⟨tg, iter, ifs, 0⟩] scope pos) spos) ρ μ E := fun F σ H hh sl D kt =>
  ss_of (ps_setLc hc hN hy hyl hsw pi_s ok hg (fun s H C cl fp => ⟨fun pins s' σ H Q I q => q s _ C cl fp pins s' I⟩) (fun s H C cl fp => ⟨fun pins s' σ H Q I q => q s _ C cl fp pins s' I⟩) hs)
    (lc_t hv h hh sl (Q := fun x H1 => gName i x σ H1 D.nx) fun v F1 H1 d μ1 ⟨p, acc, μ2, hd, hm, q⟩ e1 hs1 r1 => by
      subst hd
      subst hm
      cases r1
      rcases q with q | q
      · obtain ⟨F2, e2, hs2, r2⟩ := hs1.freeze (i := 0) rfl
        exact kt.nx F2 H1 _ _ _ q (e1.trans e2) hs2 ((sl.mono (e1.trans e2)).set i r2)
      · exact kt.nx F1 H1 _ _ _ q e1 hs1 ((sl.mono e1).set i (.ptr p)))

/-! a def keeps its promise -/
end
section
variable {P : Program} {w : World} {K : PySem.W.Frag} {mg : Str → Option Value} {base : Heap}
def rho (N : List Str) (ds : List D) : Rho := ds.map some ++ List.replicate (N.length - ds.length) none
theorem sl_start {F : Hp} {N : List Str} {vs : List V} {ds : List D} (r : Reps K F vs ds) : Sl K F (rho N ds) (L2.start N vs) := by
  have hl := r.length
  refine ⟨?_, fun i d h => ?_⟩
  · unfold rho L2.start
    rw [List.length_append, List.length_append, List.length_map, List.length_map, List.length_replicate, List.length_replicate, hl]
  · unfold rho at h
    by_cases hi : i < ds.length
    · rw [List.getElem?_append_left (by rw [List.length_map]; exact hi), List.getElem?_map] at h
      cases e : ds[i]? with
      | none => rw [e] at h; cases h
      | some x =>
        rw [e] at h
        cases h
        obtain ⟨v, h1, h2⟩ := r.get e
        refine ⟨v, ?_, h2⟩
        unfold L2.start
        rw [List.getElem?_append_left (by rw [List.length_map, hl]; exact hi), List.getElem?_map, h1]
        rfl
    · rw [List.getElem?_append_right (by rw [List.length_map]; omega), List.getElem?_replicate] at h
      split at h <;> cases h
end
end Oc

/-! Own layer, part 3: operations. -/
namespace Oc
open PySem PySem.Spec L2
open Evl (Ex)
theorem Kont.now {K : KF} {F : Hp} {Φ : D → Mu → Prop} {Q : VK} (kt : Kont K F Φ Q) {v : V} {H : Hp} {d : D} {μ : Mu} (k : Φ d μ) (hs : Hs K F μ H) (r : Rep K F v d) : Q v H := kt v F H d μ k (Ex.refl F) hs r
/-- flat data -/
def D.fl : D → Option V
  | .non => some .non
  | .bl b => some (.bl b)
  | .int i => some (.int i)
  | .str x => some (.str x)
  | _ => none
theorem rep_fl {K : PySem.W.Frag} {F : Hp} {v w : V} {d : D} (r : Rep K F v d) (h : d.fl = some w) : v = w := by
  cases r <;> first | (cases h; rfl) | cases h
def D.fls : List D → Option (List V)
  | [] => some []
  | d :: ds => match d.fl, D.fls ds with
    | some v, some vs => some (v :: vs)
    | _, _ => none
theorem rep_fls {K : PySem.W.Frag} {F : Hp} : ∀ {ds : List D} {vs ws : List V}, Reps K F vs ds → D.fls ds = some ws → vs = ws
  | [], _, _, .nil, h => by cases h; rfl
  | d :: ds, _, ws, .cons r rr, h => by
    unfold D.fls at h
    split at h
    · rename_i v vs h1 h2
      cases h
      rw [rep_fl r h1, rep_fls rr h2]
    · cases h
theorem fl_flat {d : D} {v : V} (h : d.fl = some v) : flatV v = true := by
  cases d <;> first | (cases h; rfl) | cases h
theorem fls_flat : ∀ {ds : List D} {vs : List V}, D.fls ds = some vs → vs.all flatV = true
  | [], _, h => by cases h; rfl
  | d :: ds, ws, h => by
    unfold D.fls at h
    split at h
    · rename_i v vs h1 h2
      cases h
      rw [List.all_cons, fl_flat h1, fls_flat h2]
      rfl
    · cases h
theorem fls_ints : ∀ ns : List Int, D.fls (ns.map D.int) = some (ns.map V.int)
  | [] => rfl
  | n :: ns => by
    show (match D.fl (.int n), D.fls (ns.map D.int) with | some v, some vs => some (v :: vs) | _, _ => none) = _
    rw [fls_ints ns]
    rfl
theorem fls_strs : ∀ ns : List Str, D.fls (ns.map D.str) = some (ns.map V.str)
  | [] => rfl
  | n :: ns => by
    show (match D.fl (.str n), D.fls (ns.map D.str) with | some v, some vs => some (v :: vs) | _, _ => none) = _
    rw [fls_strs ns]
    rfl
section
variable {X : Cy} {e a b c o : Expr} {es : List Expr} {ρ : Rho} {μ : Mu} {Φ : D → Mu → Prop} {d d1 d2 : D} {i j : Int} {x y : Str} {pos p : Pos} {f : Value → Value → Sem Value} {r : R2}
theorem wop_of (ho : OpR X f r) (h : ∀ F H x y, Hs X.K F μ H → Rep X.K F x d1 → Rep X.K F y d2 → ∀ Q, Kont X.K F Φ Q → r x y H Q) : wOp X f d1 d2 μ Φ := fun F H x y hs r1 r2 Q kt pins s σ v u I rv ru => ho pins s σ H x y v u Q I rv ru (h F H x y hs r1 r2 Q kt)
theorem wopI {C : Int → Int → Prop} {g : Int → Int → V} {d : D} (ho : OpR X f (rI C g)) (hc : C i j) (hg : ∀ K F, Rep K F (g i j) d) (k : Φ d μ) : wOp X f (.int i) (.int j) μ Φ := wop_of ho fun F H x y hs r1 r2 Q kt => by
  cases r1; cases r2
  exact ⟨i, j, rfl, rfl, hc, kt.now k hs (hg _ _)⟩
theorem wopI0 {g : Int → Int → V} {d : D} (ho : OpR X f (rI0 g)) (hg : ∀ K F, Rep K F (g i j) d) (k : Φ d μ) : wOp X f (.int i) (.int j) μ Φ := wop_of ho fun F H x y hs r1 r2 Q kt => by
  cases r1; cases r2
  exact ⟨i, j, rfl, rfl, kt.now k hs (hg _ _)⟩
theorem o_add (k : Φ (.int (i + j)) μ) : wOp X (binaryOp .Add) (.int i) (.int j) μ Φ := wopI0 op_add (fun _ _ => .int _) k
theorem o_sub (k : Φ (.int (i - j)) μ) : wOp X (binaryOp .Sub) (.int i) (.int j) μ Φ := wopI0 op_sub (fun _ _ => .int _) k
theorem o_mul (hc : (-(2 ^ 64) < i ∧ i < 2 ^ 64) ∨ (-(2 ^ 64) < j ∧ j < 2 ^ 64)) (k : Φ (.int (i * j)) μ) : wOp X (binaryOp .Mult) (.int i) (.int j) μ Φ := wopI op_mul hc (fun _ _ => .int _) k
theorem o_mod (hc : 0 < j) (k : Φ (.int (i % j)) μ) : wOp X (binaryOp .Mod) (.int i) (.int j) μ Φ := wopI op_mod hc (fun _ _ => .int _) k
theorem o_div (hc : 0 < j ∧ j < 1073741824) (k : Φ (.int (i / j)) μ) : wOp X (binaryOp .FloorDiv) (.int i) (.int j) μ Φ := wopI op_fdiv hc (fun _ _ => .int _) k
theorem o_pow (hc : 0 ≤ j ∧ j ≤ 1000000 ∧ i.natAbs < 2 ^ 64) (k : Φ (.int (i ^ j.toNat)) μ) : wOp X (binaryOp .Pow) (.int i) (.int j) μ Φ := wopI op_pow hc (fun _ _ => .int _) k
theorem o_shl (hc : 0 ≤ j ∧ j ≤ 1000000 ∧ i.natAbs < 2 ^ 64) (k : Φ (.int (i * 2 ^ j.toNat)) μ) : wOp X (binaryOp .LShift) (.int i) (.int j) μ Φ := wopI op_shl hc (fun _ _ => .int _) k
theorem o_shr (hc : 0 ≤ j) (k : Φ (.int (i / 2 ^ j.toNat)) μ) : wOp X (binaryOp .RShift) (.int i) (.int j) μ Φ := wopI op_shr hc (fun _ _ => .int _) k
theorem o_band (k : Φ (.int (Builtin.bitAnd i j)) μ) : wOp X (binaryOp .BitAnd) (.int i) (.int j) μ Φ := wopI0 op_and (fun _ _ => .int _) k
theorem o_bor (k : Φ (.int (Builtin.bitOr i j)) μ) : wOp X (binaryOp .BitOr) (.int i) (.int j) μ Φ := wopI0 op_or (fun _ _ => .int _) k
theorem o_bxor (k : Φ (.int (Builtin.bitXor i j)) μ) : wOp X (binaryOp .BitXor) (.int i) (.int j) μ Φ := wopI0 op_xor (fun _ _ => .int _) k
theorem o_addS (hc : x.length + y.length ≤ sizeLine) (k : Φ (.str (x ++ y)) μ) : wOp X (binaryOp .Add) (.str x) (.str y) μ Φ := wop_of op_add_str fun F H _ _ hs r1 r2 Q kt => by
  cases r1; cases r2
  exact ⟨x, y, rfl, rfl, hc, kt.now k hs (.str _)⟩
theorem o_addT {xs ys : List D} (hc : xs.length + ys.length ≤ 1000000) (k : Φ (.tup (xs ++ ys)) μ) : wOp X (binaryOp .Add) (.tup xs) (.tup ys) μ Φ := wop_of op_catA fun F H _ _ hs r1 r2 Q kt => by
  cases r1 with
  | tup g1 q1 =>
    cases r2 with
    | tup g2 q2 =>
      have l1 := q1.length
      have l2 := q2.length
      refine ⟨_, _, _, _, rfl, rfl, (Evl.st_of (hs.ex _ _ g1)), (Evl.st_of (hs.ex _ _ g2)), Nat.le_trans (by omega) (show 1000000 ≤ sizeLine by decide), fun h => ?_, fun h1 h2 => ?_, fun h1 h2 p hp => ?_⟩
      · subst h
        cases q1
        exact kt.now k hs (.tup g2 q2)
      · subst h2
        cases q2
        rw [List.append_nil] at k
        exact kt.now k hs (.tup g1 q1)
      · obtain ⟨s1, s2⟩ := hs.laid (u := .tup _) hp
        exact kt _ _ _ _ _ k s2 s1 (.tup upd_same ((q1.append q2).mono s2))
/-- two lists that stand still -/
theorem o_addL {xs ys : List D} (hc : xs.length + ys.length ≤ 1000000) (k : Φ (.lst (xs ++ ys)) μ) : wOp X (binaryOp .Add) (.lst xs) (.lst ys) μ Φ := wop_of op_cat fun F H _ _ hs r1 r2 Q kt => by
  cases r1 with
  | lst g1 q1 =>
    cases r2 with
    | lst g2 q2 =>
      have l1 := q1.length
      have l2 := q2.length
      refine ⟨_, _, _, _, rfl, rfl, hs.ex _ _ g1, hs.ex _ _ g2, Nat.le_trans (by omega) (show 1000000 ≤ sizeLine by decide), fun p hp => ?_⟩
      obtain ⟨s1, s2⟩ := hs.laid (u := .lst _) hp
      exact kt _ _ _ _ _ k s2 s1 (.lst upd_same ((q1.append q2).mono s2))
/-! comparisons -/
theorem o_lt (k : Φ (.bl (decide (i < j))) μ) : wOp X (compareOp .Lt) (.int i) (.int j) μ Φ := wopI0 op_lt (fun _ _ => .bl _) k
theorem o_le (k : Φ (.bl (decide (i ≤ j))) μ) : wOp X (compareOp .LtE) (.int i) (.int j) μ Φ := wopI0 op_le (fun _ _ => .bl _) k
theorem o_gt (k : Φ (.bl (decide (j < i))) μ) : wOp X (compareOp .Gt) (.int i) (.int j) μ Φ := wopI0 op_gt (fun _ _ => .bl _) k
theorem o_ge (k : Φ (.bl (decide (j ≤ i))) μ) : wOp X (compareOp .GtE) (.int i) (.int j) μ Φ := wopI0 op_ge (fun _ _ => .bl _) k
/-- == of flat data -/
def D.eqf : D → D → Bool
  | .non, .non => true
  | .bl a, .bl b => a == b
  | .int a, .int b => a == b
  | .str a, .str b => a == b
  | _, _ => false
def D.scal : D → D → Bool
  | .non, .non => true | .non, .int _ => true | .int _, .non => true | .non, .bl _ => true | .bl _, .non => true | .non, .str _ => true | .str _, .non => true
  | .int _, .int _ => true | .bl _, .bl _ => true | .str _, .str _ => true
  | .int _, .str _ => true | .str _, .int _ => true | .bl _, .str _ => true | .str _, .bl _ => true
  | _, _ => false
theorem scal_eq {K : PySem.W.Frag} {F : Hp} {u v : V} (r1 : Rep K F u d1) (r2 : Rep K F v d2) (h : D.scal d1 d2 = true) : scal u v = true ∧ decide (u = v) = D.eqf d1 d2 := by
  cases r1 <;> cases r2 <;> first
    | (refine ⟨by rfl, ?_⟩; simp [D.eqf]; done)
    | (refine ⟨by rfl, ?_⟩; rw [Bool.eq_iff_iff]; simp [D.eqf]; done)
    | (exfalso; simp [D.scal] at h; done)
theorem o_eq (h : D.scal d1 d2 = true) (k : Φ (.bl (D.eqf d1 d2)) μ) : wOp X (compareOp .Eq) d1 d2 μ Φ := wop_of op_eq fun F H u v hs r1 r2 Q kt => by
  obtain ⟨h1, h2⟩ := scal_eq r1 r2 h
  refine ⟨h1, ?_⟩
  rw [h2]
  exact kt.now k hs (.bl _)
theorem o_ne (h : D.scal d1 d2 = true) (k : Φ (.bl (!D.eqf d1 d2)) μ) : wOp X (compareOp .NotEq) d1 d2 μ Φ := wop_of op_ne fun F H u v hs r1 r2 Q kt => by
  obtain ⟨h1, h2⟩ := scal_eq r1 r2 h
  refine ⟨h1, ?_⟩
  rw [h2]
  exact kt.now k hs (.bl _)
def D.isN : D → Bool
  | .non => true
  | _ => false
theorem isN_eq {K : PySem.W.Frag} {F : Hp} {u : V} (r1 : Rep K F u d) : decide (u = V.non) = D.isN d := by
  cases r1 <;> simp [D.isN]
theorem o_isN (k : Φ (.bl (D.isN d)) μ) : wOp X (compareOp .Is) d .non μ Φ := wop_of op_isN fun F H u v hs r1 r2 Q kt => by
  cases r2
  refine ⟨rfl, ?_⟩
  rw [isN_eq r1]
  exact kt.now k hs (.bl _)
theorem o_notN (k : Φ (.bl (!D.isN d)) μ) : wOp X (compareOp .IsNot) d .non μ Φ := wop_of op_notN fun F H u v hs r1 r2 Q kt => by
  cases r2
  refine ⟨rfl, ?_⟩
  rw [isN_eq r1]
  exact kt.now k hs (.bl _)
/-- in a tuple or a list of flat things -/
theorem o_in {w : V} {ds : List D} {ws : List V} (hd : d2 = .tup ds ∨ d2 = .lst ds ∨ d2 = .scr ds) (h1 : d.fl = some w) (h2 : D.fls ds = some ws) (k : Φ (.bl (inV w ws)) μ) : wOp X (compareOp .In) d d2 μ Φ := wop_of op_in_seq fun F H u v hs r1 r2 Q kt => by
  have e1 := rep_fl r1 h1
  subst e1
  rcases hd with rfl | rfl | rfl
  · cases r2 with
    | tup g q =>
      have e2 := rep_fls q h2
      subst e2
      exact ⟨_, _, rfl, .inr ((Evl.st_of (hs.ex _ _ g))), fl_flat h1, fls_flat h2, kt.now k hs (.bl _)⟩
  · cases r2 with
    | lst g q =>
      have e2 := rep_fls q h2
      subst e2
      exact ⟨_, _, rfl, .inl (Evl.ex_l hs.ex (Evl.sq_of g)), fl_flat h1, fls_flat h2, kt.now k hs (.bl _)⟩
  · cases r2 with
    | scr g q =>
      have e2 := rep_fls q h2
      subst e2
      exact ⟨_, _, rfl, .inl (Evl.ex_l hs.ex g), fl_flat h1, fls_flat h2, kt.now k hs (.bl _)⟩
theorem o_nin {w : V} {ds : List D} {ws : List V} (hd : d2 = .tup ds ∨ d2 = .lst ds ∨ d2 = .scr ds) (h1 : d.fl = some w) (h2 : D.fls ds = some ws) (k : Φ (.bl (!inV w ws)) μ) : wOp X (compareOp .NotIn) d d2 μ Φ := wop_of op_notIn_seq fun F H u v hs r1 r2 Q kt => by
  have e1 := rep_fl r1 h1
  subst e1
  rcases hd with rfl | rfl | rfl
  · cases r2 with
    | tup g q =>
      have e2 := rep_fls q h2
      subst e2
      exact ⟨_, _, rfl, .inr ((Evl.st_of (hs.ex _ _ g))), fl_flat h1, fls_flat h2, kt.now k hs (.bl _)⟩
  · cases r2 with
    | lst g q =>
      have e2 := rep_fls q h2
      subst e2
      exact ⟨_, _, rfl, .inl (Evl.ex_l hs.ex (Evl.sq_of g)), fl_flat h1, fls_flat h2, kt.now k hs (.bl _)⟩
  · cases r2 with
    | scr g q =>
      have e2 := rep_fls q h2
      subst e2
      exact ⟨_, _, rfl, .inl (Evl.ex_l hs.ex g), fl_flat h1, fls_flat h2, kt.now k hs (.bl _)⟩
/-! == at any depth -/
mutual
def D.py : D → PyData
  | .non => .none
  | .bl b => .bool b
  | .int i => .int i
  | .str x => .str x
  | .tup l => .tuple (D.pys l)
  | .tpl l => .tuple (D.pys l)
  | .lst l => .list (D.pys l)
  | .scr l => .list (D.pys l)
  | _ => .none
def D.pys : List D → List PyData
  | [] => []
  | d :: ds => D.py d :: D.pys ds
end
mutual
/-- nothing in it that may change -/
def D.still : D → Bool
  | .tup l => D.stills l
  | .tpl l => D.stills l
  | .lst l => D.stills l
  | .scr l => D.stills l
  | .ptr _ => false
  | .ty _ => false
  | .dct _ _ => false
  | _ => true
def D.stills : List D → Bool
  | [] => true
  | d :: ds => D.still d && D.stills ds
end
mutual
theorem rep_py {K : PySem.W.Frag} {F H : Hp} (e : Ex F H) : ∀ {d : D} {v : V}, Rep K F v d → D.still d = true → Dp K H v (D.py d)
  | _, _, .non, _ => .non
  | _, _, .bl b, _ => .bl b
  | _, _, .int i, _ => .int i
  | _, _, .str x, _ => .str x
  | _, _, .tup (ds := ds) g r, h => .tup ((Evl.st_of (e _ _ g))) (reps_py e r (by simpa [D.still] using h))
  | _, _, .tpl (ds := ds) g _ _ r, h => .tup (.inl (.inr ⟨_, e _ _ g⟩)) (reps_py e r (by simpa [D.still] using h))
  | _, _, .lst (ds := ds) g r, h => .lst (Evl.sq_of (e _ _ g)) (reps_py e r (by simpa [D.still] using h))
  | _, _, .scr (ds := ds) g r, h => .lst (Evl.ex_l e g) (reps_py e r (by simpa [D.still] using h))
  | _, _, .ptr a, h => absurd h (by simp [D.still])
  | _, _, .ty a, h => absurd h (by simp [D.still])
  | _, _, .dct _ _ _, h => absurd h (by simp [D.still])
theorem reps_py {K : PySem.W.Frag} {F H : Hp} (e : Ex F H) : ∀ {d : List D} {v : List V}, Reps K F v d → D.stills d = true → DpAll K H v (D.pys d)
  | _, _, .nil, _ => .nil
  | _, _, .cons r rr, h => by
    rw [D.stills, Bool.and_eq_true] at h
    exact .cons (rep_py e r h.1) (reps_py e rr h.2)
end
theorem o_eqD (hu : X.c.A.units + 64 < cLine) (h1 : D.still d1 = true) (h2 : D.still d2 = true) (s1 : SeqAt.shaped d1.py = true) (s2 : SeqAt.shaped d2.py = true) (k : Φ (.bl (PyData.eqv d1.py d2.py)) μ) : wOp X (compareOp .Eq) d1 d2 μ Φ := wop_of (op_eqD hu) fun F H u v hs r1 r2 Q kt =>
  ⟨_, _, rep_py hs.ex r1 h1, rep_py hs.ex r2 h2, s1, s2, kt.now k hs (.bl _)⟩
theorem o_neD (hu : X.c.A.units + 64 < cLine) (h1 : D.still d1 = true) (h2 : D.still d2 = true) (s1 : SeqAt.shaped d1.py = true) (s2 : SeqAt.shaped d2.py = true) (k : Φ (.bl (!PyData.eqv d1.py d2.py)) μ) : wOp X (compareOp .NotEq) d1 d2 μ Φ := wop_of (op_neD hu) fun F H u v hs r1 r2 Q kt =>
  ⟨_, _, rep_py hs.ex r1 h1, rep_py hs.ex r2 h2, s1, s2, kt.now k hs (.bl _)⟩
/-! subscripts -/
theorem wix_of {r : R2} (ho : IxR X r) (h : ∀ F H x y, Hs X.K F μ H → Rep X.K F x d1 → Rep X.K F y d2 → ∀ Q, Kont X.K F Φ Q → r x y H Q) : wIx X d1 d2 μ Φ := fun F H x y hs r1 r2 Q kt value slice pins s σ v u I rv ru z => ho value slice pins s σ H x y v u Q I rv ru (h F H x y hs r1 r2 Q kt) z
theorem ix_tupD {ds : List D} (n : Nat) (hn : i = (n : Int)) (hd : ds[n]? = some d) (k : Φ d μ) : wIx X (.tup ds) (.int i) μ Φ := wix_of ix_tup fun F H x y hs r1 r2 Q kt => by
  subst hn
  cases r2
  cases r1 with
  | tup g q =>
    obtain ⟨v, h1, h2⟩ := q.get hd
    exact ⟨_, _, _, v, rfl, rfl, (Evl.st_of (hs.ex _ _ g)), atI_nat h1, kt.now k hs h2⟩
theorem ix_lstD {ds : List D} (n : Nat) (hn : i = (n : Int)) (hd : ds[n]? = some d) (k : Φ d μ) : wIx X (.lst ds) (.int i) μ Φ := wix_of ix_list fun F H x y hs r1 r2 Q kt => by
  subst hn
  cases r2
  cases r1 with
  | lst g q =>
    obtain ⟨v, h1, h2⟩ := q.get hd
    exact ⟨_, _, _, v, rfl, rfl, Evl.sq_of (hs.ex _ _ g), atI_nat h1, kt.now k hs h2⟩
theorem ix_scrD {ds : List D} (n : Nat) (hn : i = (n : Int)) (hd : ds[n]? = some d) (k : Φ d μ) : wIx X (.scr ds) (.int i) μ Φ := wix_of ix_list fun F H x y hs r1 r2 Q kt => by
  subst hn
  cases r2
  cases r1 with
  | scr g q =>
    obtain ⟨v, h1, h2⟩ := q.get hd
    exact ⟨_, _, _, v, rfl, rfl, Evl.ex_l hs.ex g, atI_nat h1, kt.now k hs h2⟩
theorem ix_ptrD {q : Addr} {ds : List D} (m : Nat) (hm : μ[m]? = some (q, .lst ds)) (n : Nat) (hn : i = (n : Int)) (hd : ds[n]? = some d) (k : Φ d μ) : wIx X (.ptr q) (.int i) μ Φ := wix_of ix_list fun F H x y hs r1 r2 Q kt => by
  subst hn
  cases r2
  cases r1
  obtain ⟨xs, g, r⟩ := hs.lst hm
  obtain ⟨v, h1, h2⟩ := r.get hd
  exact ⟨_, _, _, v, rfl, rfl, Evl.sq_of g, atI_nat h1, kt.now k hs h2⟩
theorem ix_strD (n : Nat) (hn : i = (n : Int)) {c : Nat} (hz : x.length ≤ sizeLine) (hd : x.cps.toList[n]? = some c) (k : Φ (.str ⟨#[c]⟩) μ) : wIx X (.str x) (.int i) μ Φ := wix_of ix_str fun F H _ _ hs r1 r2 Q kt => by
  subst hn
  cases r2
  cases r1
  exact ⟨_, _, c, rfl, rfl, hz, atI_nat hd, kt.now k hs (.str _)⟩
/-! built-in functions -/
theorem wcl_of {g : Value} {r : List V → Hp → VK → Prop} {ds : List D} (ho : CallR X g r) (h : ∀ F H xs, Hs X.K F μ H → Reps X.K F xs ds → ∀ Q, Kont X.K F Φ Q → r xs H Q) : wCl X g ds μ Φ := fun F H xs hs r1 Q kt pins s σ us I rv => ho pins s σ H xs us Q I rv (h F H xs hs r1 Q kt)
theorem c_abs (k : Φ (.int (if i < 0 then -i else i)) μ) : wCl X (.builtin "abs") [.int i] μ Φ := wcl_of call_abs fun F H xs hs r1 Q kt => by
  cases r1 with
  | cons r rr => cases rr; cases r; exact ⟨i, rfl, kt.now k hs (.int _)⟩
theorem c_max2 (hc : X.calm = true) (k : Φ (.int (if j > i then j else i)) μ) : wCl X (.builtin "max") [.int i, .int j] μ Φ := wcl_of (call_max2 hc) fun F H xs hs r1 Q kt => by
  cases r1 with
  | cons r rr => cases rr with | cons r2 rr => cases rr; cases r; cases r2; exact ⟨i, j, rfl, kt.now k hs (.int _)⟩
theorem c_min2 (hc : X.calm = true) (k : Φ (.int (if j < i then j else i)) μ) : wCl X (.builtin "min") [.int i, .int j] μ Φ := wcl_of (call_min2 hc) fun F H xs hs r1 Q kt => by
  cases r1 with
  | cons r rr => cases rr with | cons r2 rr => cases rr; cases r; cases r2; exact ⟨i, j, rfl, kt.now k hs (.int _)⟩
theorem c_lenL {ds : List D} (k : Φ (.int ds.length) μ) : wCl X (.builtin "len") [.lst ds] μ Φ := wcl_of call_len_seq fun F H xs hs r1 Q kt => by
  cases r1 with
  | cons r rr =>
    cases rr
    cases r with
    | lst g q =>
      rw [← q.length] at k
      exact ⟨_, _, rfl, .inl (Evl.sq_of (hs.ex _ _ g)), kt.now k hs (.int _)⟩
theorem c_lenC {ds : List D} (k : Φ (.int ds.length) μ) : wCl X (.builtin "len") [.scr ds] μ Φ := wcl_of call_len_seq fun F H xs hs r1 Q kt => by
  cases r1 with
  | cons r rr =>
    cases rr
    cases r with
    | scr g q =>
      rw [← q.length] at k
      exact ⟨_, _, rfl, .inl (Evl.ex_l hs.ex g), kt.now k hs (.int _)⟩
theorem c_lenT {ds : List D} (k : Φ (.int ds.length) μ) : wCl X (.builtin "len") [.tup ds] μ Φ := wcl_of call_len_seq fun F H xs hs r1 Q kt => by
  cases r1 with
  | cons r rr =>
    cases rr
    cases r with
    | tup g q =>
      rw [← q.length] at k
      exact ⟨_, _, rfl, .inr ((Evl.st_of (hs.ex _ _ g))), kt.now k hs (.int _)⟩
theorem c_lenP {q : Addr} {ds : List D} (m : Nat) (hm : μ[m]? = some (q, .lst ds)) (k : Φ (.int ds.length) μ) : wCl X (.builtin "len") [.ptr q] μ Φ := wcl_of call_len_seq fun F H xs hs r1 Q kt => by
  cases r1 with
  | cons r rr =>
    cases rr
    cases r
    obtain ⟨xs, g, r⟩ := hs.lst hm
    rw [← r.length] at k
    exact ⟨_, _, rfl, .inl (Evl.sq_of g), kt.now k hs (.int _)⟩
theorem c_lenS (hz : x.length ≤ sizeLine) (k : Φ (.int x.length) μ) : wCl X (.builtin "len") [.str x] μ Φ := wcl_of call_len_str fun F H xs hs r1 Q kt => by
  cases r1 with
  | cons r rr =>
    cases rr
    cases r
    exact ⟨_, rfl, hz, kt.now k hs (.int _)⟩
theorem c_str (hz : i.natAbs.log2 < 1920) (k : Φ (.str (toString i)) μ) : wCl X (.type "str") [.int i] μ Φ := wcl_of call_str_int fun F H xs hs r1 Q kt => by
  cases r1 with
  | cons r rr =>
    cases rr
    cases r
    exact ⟨_, rfl, hz, kt.now k hs (.str _)⟩
theorem c_intB {t : Bool} (k : Φ (.int (if t then 1 else 0)) μ) : wCl X (.type "int") [.bl t] μ Φ := wcl_of call_int1 fun F H xs hs r1 Q kt => by
  cases r1 with
  | cons r rr =>
    cases rr
    cases r
    exact .inr ⟨_, rfl, kt.now k hs (.int _)⟩
theorem c_intS {n : Int} (h : PySem.intText? x = some n) (hz : x.length ≤ 640) (k : Φ (.int n) μ) : wCl X (.type "int") [.str x] μ Φ := wcl_of call_int_str fun F H xs hs r1 Q kt => by
  cases r1 with
  | cons r rr =>
    cases rr
    cases r
    exact ⟨_, _, rfl, h, hz, kt.now k hs (.int _)⟩
/-- tuple(a list), list(a tuple, a list) -/
theorem c_tupL {ds : List D} (k : Φ (.tup ds) μ) : wCl X (.type "tuple") [.lst ds] μ Φ := wcl_of call_tuple_of fun F H xs hs r1 Q kt => by
  cases r1 with
  | cons r rr =>
    cases rr
    cases r with
    | lst g q =>
      refine ⟨_, _, rfl, .inl ⟨Evl.sq_of (hs.ex _ _ g), fun p hp => ?_⟩⟩
      obtain ⟨s1, s2⟩ := hs.laid (u := .tup _) hp
      exact kt _ _ _ _ _ k s2 s1 (.tup upd_same (q.mono s2))
theorem c_tupP {q : Addr} {ds : List D} (m : Nat) (hm : μ[m]? = some (q, .lst ds)) (k : Φ (.tup ds) μ) : wCl X (.type "tuple") [.ptr q] μ Φ := wcl_of call_tuple_of fun F H xs hs r1 Q kt => by
  cases r1 with
  | cons r rr =>
    cases rr
    cases r
    obtain ⟨xs, g, r⟩ := hs.lst hm
    refine ⟨_, _, rfl, .inl ⟨Evl.sq_of g, fun p hp => ?_⟩⟩
    obtain ⟨s1, s2⟩ := hs.laid (u := .tup _) hp
    exact kt _ _ _ _ _ k s2 s1 (.tup upd_same (r.mono s2))
theorem c_tupT {ds : List D} (k : Φ (.tup ds) μ) : wCl X (.type "tuple") [.tup ds] μ Φ := wcl_of call_tuple_of fun F H xs hs r1 Q kt => by
  cases r1 with
  | cons r rr =>
    cases rr
    cases r with
    | tup g q => exact ⟨_, _, rfl, .inr ⟨(Evl.st_of (hs.ex _ _ g)), kt.now k hs (.tup g q)⟩⟩
theorem c_lstT {ds : List D} (k : ∀ p, Φ (.ptr p) ((p, .lst ds) :: μ)) : wCl X (.type "list") [.tup ds] μ Φ := wcl_of call_list_of fun F H xs hs r1 Q kt => by
  cases r1 with
  | cons r rr =>
    cases rr
    cases r with
    | tup g q => exact ⟨_, _, rfl, .inr ((Evl.st_of (hs.ex _ _ g))), fun p hp => kt _ _ _ _ _ (k p) (Ex.refl F) (hs.cell hp (.lst q)) (.ptr p)⟩
theorem c_lstL {ds : List D} (k : ∀ p, Φ (.ptr p) ((p, .lst ds) :: μ)) : wCl X (.type "list") [.lst ds] μ Φ := wcl_of call_list_of fun F H xs hs r1 Q kt => by
  cases r1 with
  | cons r rr =>
    cases rr
    cases r with
    | lst g q => exact ⟨_, _, rfl, .inl (Evl.sq_of (hs.ex _ _ g)), fun p hp => kt _ _ _ _ _ (k p) (Ex.refl F) (hs.cell hp (.lst q)) (.ptr p)⟩
/-- isinstance -/
theorem w_ty {z : Str} {n : String} (hm : X.mg z = none) (k : Φ (.ty n) μ) (hg : Gl X z := by rfl) (hv : bootBuiltins z = some (.type n) := by decide +kernel) (hn : z ≠ "__name__" := by decide) (hd : (z == ("__debug__" : Str)) = false := by decide) : wE X (.Name z pos) ρ μ Φ := fun F σ H hs sl Q kt =>
  se_of (pe_bltn hg hm hv (v := .ty n) rfl hn hd) (kt.now k hs (.ty n))
/-- the class of a thing -/
def D.cls : D → Option Value
  | .non => some (.type "NoneType")
  | .bl _ => some (.type "bool")
  | .int _ => some (.type "int")
  | .str _ => some (.type "str")
  | .lst _ => some (.type "list")
  | .scr _ => some (.type "list")
  | .tup _ => some (.type "tuple")
  | .tpl _ => some (.type "tuple")
  | _ => none
theorem rep_cls {K : PySem.W.Frag} {F H : Hp} {v : V} {t : Value} (e : Ex F H) (r : Rep K F v d) (h : d.cls = some t) : TyX K H v t := by
  cases r with
  | non => cases h; exact .base .non
  | bl b => cases h; exact .base (.bl b)
  | int b => cases h; exact .base (.int b)
  | str b => cases h; exact .base (.str b)
  | lst g q => cases h; exact .base (.lst (e _ _ g))
  | scr g q =>
    cases h
    rcases Evl.ex_l e g with (g | ⟨o, g⟩) | ⟨o, its, n, g, c, _⟩
    · exact .base (.lst g)
    · exact .base (.frz g)
    · exact .kList g c
  | tup g q =>
    cases h
    rcases (Evl.st_of (e _ _ g)) with (g | ⟨o, g⟩) | ⟨o, its, n, g, c, _⟩
    · exact .base (.tup g)
    · exact .fTuple g
    · exact .kTuple g c
  | tpl g _ _ q => cases h; exact .fTuple (e _ _ g)
  | ptr a => cases h
  | ty n => cases h
  | dct g e2 q => cases h
theorem c_isi {n : String} {t : Value} {k : Bool} (h : d.cls = some t) (hk : PySem.W.kitOne X.K t (.type n) = some k) (q : Φ (.bl k) μ) : wCl X (.builtin "isinstance") [d, .ty n] μ Φ := wcl_of call_isi fun F H xs hs r1 Q kt => by
  cases r1 with
  | cons r rr =>
    cases rr with
    | cons r2 rr =>
      cases rr
      cases r2
      exact ⟨_, _, t, _, k, rfl, .ty n, rep_cls hs.ex r h, hk, kt.now q hs (.bl _)⟩
end
end Oc

/-! Own layer, part 4: methods, dicts. -/
namespace Oc
open PySem PySem.Spec L2
open Evl (Ex)
section
variable {κ : Type} [DecidableEq κ]
def valD (ds : List (κ × D)) (k : κ) : Option D := (ds.find? fun kv => decide (kv.1 = k)).map (·.2)
def putD (ds : List (κ × D)) (k : κ) (v : D) : List (κ × D) := if (ds.any fun kv => decide (kv.1 = k)) = true then ds.map (fun kv => if kv.1 = k then (kv.1, v) else kv) else ds ++ [(k, v)]
theorem valD_nil {k : κ} : valD ([] : List (κ × D)) k = none := rfl
theorem valD_pos {d : D} {r : List (κ × D)} {k : κ} : valD ((k, d) :: r) k = some d := by simp [valD]
theorem valD_neg {p : κ × D} {r : List (κ × D)} {k : κ} (e : ¬ p.1 = k) : valD (p :: r) k = valD r k := by simp [valD, List.find?_cons, e]
theorem RepK.val {K : PySem.W.Frag} {F : Hp} : ∀ {ds : List (κ × D)} {kvs : List (κ × V)}, RepK K F ds kvs → ∀ k, (∀ d, valD ds k = some d → ∃ v, valV kvs k = some v ∧ Rep K F v d) ∧ (valD ds k).isSome = (valV kvs k).isSome
  | _, _, .nil, k => ⟨fun d h => (nomatch h), rfl⟩
  | p :: ds, q :: kvs, .cons r rr, k => by
    obtain ⟨h1, h2⟩ := RepK.val (ds := ds) (kvs := kvs) rr k
    obtain ⟨p1, p2⟩ := p
    obtain ⟨q1, q2⟩ := q
    obtain ⟨e, r⟩ := r
    have e : p1 = q1 := e
    subst e
    by_cases hk : p1 = k
    · subst hk
      rw [valD_pos, valV_pos (p := (p1, q2)) rfl]
      exact ⟨fun d h => by cases h; exact ⟨_, rfl, r⟩, rfl⟩
    · rw [valD_neg (p := (p1, p2)) hk, valV_neg (p := (p1, q2)) hk]
      exact ⟨h1, h2⟩
theorem RepK.len {K : PySem.W.Frag} {F : Hp} {ds : List (κ × D)} {kvs : List (κ × V)} (h : RepK K F ds kvs) : ds.length = kvs.length := Paired.length h
theorem RepK.any {K : PySem.W.Frag} {F : Hp} {k : κ} : ∀ {ds : List (κ × D)} {kvs : List (κ × V)}, RepK K F ds kvs → (ds.any fun kv => decide (kv.1 = k)) = kvs.any fun kv => decide (kv.1 = k)
  | _, _, .nil => rfl
  | p :: ds, q :: kvs, .cons r rr => by rw [List.any_cons, List.any_cons, RepK.any (ds := ds) (kvs := kvs) rr, r.1]
theorem RepK.map {K : PySem.W.Frag} {F : Hp} {k : κ} {v : V} {d : D} (hr : Rep K F v d) : ∀ {ds : List (κ × D)} {kvs : List (κ × V)}, RepK K F ds kvs → RepK K F (ds.map fun kv => if kv.1 = k then (kv.1, d) else kv) (kvs.map fun kv => if kv.1 = k then (kv.1, v) else kv)
  | _, _, .nil => .nil
  | p :: ds, q :: kvs, .cons r rr => by
    refine .cons ?_ (RepK.map hr (ds := ds) (kvs := kvs) rr)
    show (if p.1 = k then (p.1, d) else p).1 = (if q.1 = k then (q.1, v) else q).1 ∧ Rep K F (if q.1 = k then (q.1, v) else q).2 (if p.1 = k then (p.1, d) else p).2
    rw [← r.1]
    by_cases hk : p.1 = k
    · rw [if_pos hk, if_pos hk]; exact ⟨rfl, hr⟩
    · rw [if_neg hk, if_neg hk]; exact r
theorem RepK.snoc {K : PySem.W.Frag} {F : Hp} {k : κ} {v : V} {d : D} (hr : Rep K F v d) : ∀ {ds : List (κ × D)} {kvs : List (κ × V)}, RepK K F ds kvs → RepK K F (ds ++ [(k, d)]) (kvs ++ [(k, v)])
  | _, _, .nil => .cons ⟨rfl, hr⟩ .nil
  | p :: ds, q :: kvs, .cons r rr => .cons r (RepK.snoc hr (ds := ds) (kvs := kvs) rr)
theorem RepK.put {K : PySem.W.Frag} {F : Hp} {k : κ} {v : V} {d : D} (hr : Rep K F v d) {ds : List (κ × D)} {kvs : List (κ × V)} (h : RepK K F ds kvs) : RepK K F (putD ds k d) (putK kvs k v) := by
  unfold putD putK
  rw [← h.any]
  split
  · exact h.map hr
  · exact h.snoc hr
end
def kD : Key → D
  | .inl i => .int i
  | .inr x => .str x
theorem rep_kD {K : PySem.W.Frag} {F : Hp} {v : V} {k : Key} (r : Rep K F v (kD k)) : v = kV k := by
  cases k <;> (cases r; rfl)
theorem rep_kDs {K : PySem.W.Frag} {F : Hp} : ∀ {ks : List Key} {vs : List V}, Reps K F vs (ks.map kD) → vs = ks.map kV
  | [], _, .nil => rfl
  | k :: ks, _, .cons r rr => by rw [rep_kD r, rep_kDs rr]; rfl
def mergeD (ds more : List (Key × D)) : List (Key × D) := more.foldl (fun acc kv => putD acc kv.1 kv.2) ds
theorem RepK.merge {K : PySem.W.Frag} {F : Hp} : ∀ {ds' : List (Key × D)} {kvs' : List (Key × V)} {ds : List (Key × D)} {kvs : List (Key × V)}, RepK K F ds' kvs' → RepK K F ds kvs → RepK K F (mergeD ds ds') (mergeK kvs kvs')
  | _, _, _, _, .nil, h => h
  | p :: ds', q :: kvs', ds, kvs, .cons r rr, h => by
    have h1 := h.put (k := p.1) r.2
    have e : putK kvs p.1 q.2 = putK kvs q.1 q.2 := by rw [r.1]
    rw [e] at h1
    exact RepK.merge (ds' := ds') (kvs' := kvs') rr h1
section
variable {X : Cy} {e a b c o k v : Expr} {es : List Expr} {ρ : Rho} {μ : Mu} {Φ : D → Mu → Prop} {d d1 d2 : D} {i j : Int} {x y : Str} {pos p apos cpos : Pos} {E : En} {ΦS : Rho → Mu → Prop}
/-! methods of lists and texts -/
theorem tyD_V {K : KF} {F H : Hp} {T : String} {u : V} (hs : Hs K F μ H) (r : Rep K F u d) (h : tyD T d μ) (hT : T ≠ "tuple") : tyV K T u H := by
  cases r with
  | str x => exact h
  | lst g q => exact .inl ⟨h, _, Evl.sq_of (hs.ex _ _ g)⟩
  | scr g q => exact .inl ⟨h, _, Evl.ex_l hs.ex g⟩
  | tup g q => exact absurd h hT
  | tpl g _ _ q => exact absurd h hT
  | ptr a =>
    rcases h with ⟨h, i, l, hi⟩ | ⟨h, i, l, hi⟩ | ⟨h, i, l, hi⟩
    · obtain ⟨xs, g, _⟩ := hs.lst hi
      exact .inl ⟨h, _, Evl.sq_of g⟩
    · obtain ⟨xs, g, _⟩ := hs.dk hi
      exact .inr (.inr (.inl ⟨h, .inl ⟨_, g⟩⟩))
    · obtain ⟨xs, g, _⟩ := hs.dt hi
      exact .inr (.inr (.inl ⟨h, .inr ⟨_, g⟩⟩))
  | non => exact h.elim
  | bl b => exact h.elim
  | int b => exact h.elim
  | ty b => exact h.elim
  | dct g e2 q => exact h.elim
def sMt (X : Cy) (id : String) : V → List V → Hp → VK → Prop := fun x xs H Q => ∀ (pins : List (Addr × Obj)) (s : Shared) (σ : L2.St) (v : Value) (us : List Value), Inv X pins σ H s → RelV x v → Vals xs us → wpAny (model X.prog X.w) X.A (call (.builtin id) (v :: us)) (EP X pins σ Q) X.xe s
theorem mt_s {X : Cy} {id : String} : MtR X id (sMt X id) := fun pins s σ H x xs v us Q I rx rv h => h pins s σ v us I rx rv
theorem wmt_of {X : Cy} {T id : String} {r : V → List V → Hp → VK → Prop} {ds : List D} {μ : Mu} {Φ : D → Mu → Prop} {d : D} (hm : MtR X id r) (h : ∀ F H x xs, Hs X.K F μ H → Rep X.K F x d → Reps X.K F xs ds → ∀ Q, Kont X.K F Φ Q → r x xs H Q) : wMt X T id d ds μ Φ :=
  fun F H x xs hs r1 r2 Q kt pins s σ v us I rv ru => hm pins s σ H x xs v us Q I rv ru (h F H x xs hs r1 r2 Q kt)
/-- o.m(e, ..) of a built-in type -/
theorem w_bm {T id : String} {name : Str} (hT : T ≠ "tuple") (pa : PlainAttrs T) (slot : Slot T name id) (hty : typeOf (.builtin id) = pure (.type "method_descriptor")) (h : wE X o ρ μ fun d μ1 => tyD T d μ1 ∧ wA X (e :: es) ρ μ1 fun ds μ2 => wMt X T id d ds μ2 Φ)
    (hbase : attributeBase o name X.env (eval o X.env) = eval o X.env := by rfl)
    (hfew : ((backTo cpos (starEach (e :: es) X.env)).all (fun x => !x.1) && (backToKw cpos (keywordEach [] X.env)).all (fun x => x.1.isSome)
      && decide ((e :: es).length + ([] : List Keyword).length + (if ([] : List Keyword).isEmpty then 0 else 1) < 30)) = true := by rfl)
    (hline : (apos.endLine == cpos.line) = true := by rfl) (hs : starEach (e :: es) X.env = (false, eval e X.env) :: starEach es X.env := by rfl) (hplain : (backTo cpos (starEach es X.env)).any (·.1) = false := by rfl) :
    wE X (.Call (.Attribute o name apos) (e :: es) [] cpos) ρ μ Φ := fun F σ H hh sl Q kt =>
  se_of (pe_bm pa slot hty (mt_s (X := X)) pe_s pa_s hbase hfew hline hs hplain) (h F σ H hh sl _ fun u F1 H1 d μ1 ⟨q1, q⟩ e1 hs1 r1 => ⟨tyD_V hs1 r1 q1 hT, q F1 σ H1 hs1 (sl.mono e1) _ fun us F2 H2 ds μ2 q2 e2 hs2 r2 => q2 F2 H2 u us hs2 (r1.mono e2) r2 Q (kt.mono (e1.trans e2))⟩)
theorem w_bm0 {T id : String} {name : Str} (hT : T ≠ "tuple") (pa : PlainAttrs T) (slot : Slot T name id) (hty : typeOf (.builtin id) = pure (.type "method_descriptor")) (h : wE X o ρ μ fun d μ1 => tyD T d μ1 ∧ wMt X T id d [] μ1 Φ)
    (hbase : attributeBase o name X.env (eval o X.env) = eval o X.env := by rfl) (hline : (apos.endLine == cpos.line) = true := by rfl) : wE X (.Call (.Attribute o name apos) [] [] cpos) ρ μ Φ := fun F σ H hh sl Q kt =>
  se_of (pe_bm0 pa slot hty (mt_s (X := X)) pe_s hbase hline) (h F σ H hh sl _ fun u F1 H1 d μ1 ⟨q1, q⟩ e1 hs1 r1 => ⟨tyD_V hs1 r1 q1 hT, q F1 H1 u [] hs1 r1 .nil Q (kt.mono e1)⟩)
theorem m_append {q : Addr} {ds : List D} (m : Nat) (hm : μ[m]? = some (q, .lst ds)) (hz : ds.length < 1000000) (k : Φ .non (μ.set m (q, .lst (ds ++ [d])))) : wMt X "list" "list.append" (.ptr q) [d] μ Φ := wmt_of mt_append fun F H u us hs r1 r2 Q kt => by
  cases r1
  cases r2 with
  | cons r rr =>
    cases rr
    obtain ⟨xs, g, rx⟩ := hs.lst hm
    refine ⟨_, _, _, rfl, rfl, g, Nat.lt_trans (by rw [rx.length]; exact hz) (show 1000000 < sizeLine by decide), ?_⟩
    exact kt.now k (hs.write hm (.lst (rx.append (.one r)))) .non
theorem m_pop {q : Addr} {ds : List D} (m : Nat) (hm : μ[m]? = some (q, .lst ds)) (hd : ds[ds.length - 1]? = some d) (k : Φ d (μ.set m (q, .lst ds.dropLast))) : wMt X "list" "list.pop" (.ptr q) [] μ Φ := wmt_of mt_pop fun F H u us hs r1 r2 Q kt => by
  cases r1
  cases r2
  obtain ⟨xs, g, rx⟩ := hs.lst hm
  obtain ⟨v, h1, h2⟩ := rx.get hd
  rw [← rx.length] at h1
  refine ⟨_, _, v, rfl, rfl, g, h1, ?_⟩
  refine kt.now k (hs.write hm (.lst ?_)) h2
  rw [List.dropLast_eq_take, List.dropLast_eq_take, rx.length]
  exact rx.take _
theorem m_reverse {q : Addr} {ds : List D} (m : Nat) (hm : μ[m]? = some (q, .lst ds)) (k : Φ .non (μ.set m (q, .lst ds.reverse))) : wMt X "list" "list.reverse" (.ptr q) [] μ Φ := wmt_of mt_reverse fun F H u us hs r1 r2 Q kt => by
  cases r1
  cases r2
  obtain ⟨xs, g, rx⟩ := hs.lst hm
  exact ⟨_, _, rfl, rfl, g, kt.now k (hs.write hm (.lst rx.reverse)) .non⟩
theorem m_extend {q : Addr} {ds fs : List D} (m : Nat) (hm : μ[m]? = some (q, .lst ds)) (hz : ds.length + fs.length ≤ 1000000) (k : Φ .non (μ.set m (q, .lst (ds ++ fs)))) : wMt X "list" "list.extend" (.ptr q) [.lst fs] μ Φ := wmt_of mt_extend fun F H u us hs r1 r2 Q kt => by
  cases r1
  cases r2 with
  | cons r rr =>
    cases rr
    cases r with
    | lst g2 r2 =>
      obtain ⟨xs, g, rx⟩ := hs.lst hm
      exact ⟨_, _, _, _, rfl, rfl, g, hs.ex _ _ g2, Nat.le_trans (by rw [rx.length, r2.length]; exact hz) (show 1000000 ≤ sizeLine by decide), kt.now k (hs.write hm (.lst (rx.append r2))) .non⟩
theorem m_join {ys : List Str} (hd : (∃ ds : List D, (d = .lst ds ∨ d = .tup ds) ∧ ds = ys.map D.str) ∨ ∃ (m : Nat) (q : Addr), d = .ptr q ∧ μ[m]? = some (q, MO.lst (ys.map D.str))) (hz : (ys.map (·.length)).sum + ys.length * x.length ≤ 16777216) (k : Φ (.str (Txt.join x ys)) μ) : wMt X "str" "str.join" (.str x) [d] μ Φ := wmt_of mt_join fun F H u us hs r1 r2 Q kt => by
  cases r1
  cases r2 with
  | cons r rr =>
    cases rr
    rcases hd with ⟨ds, hd | hd, e⟩ | ⟨m, q, rfl, hm⟩
    · subst hd
      cases r with
      | lst g rx =>
        subst e
        rw [reps_strs rx] at g
        exact ⟨x, _, ys, rfl, rfl, .inl (Evl.sq_of (hs.ex _ _ g)), hz, kt.now k hs (.str _)⟩
    · subst hd
      cases r with
      | tup g rx =>
        subst e
        rw [reps_strs rx] at g
        exact ⟨x, _, ys, rfl, rfl, .inr ((Evl.st_of (hs.ex _ _ g))), hz, kt.now k hs (.str _)⟩
    · cases r
      obtain ⟨xs, g, rx⟩ := hs.lst hm
      rw [reps_strs rx] at g
      exact ⟨x, _, ys, rfl, rfl, .inl (Evl.sq_of g), hz, kt.now k hs (.str _)⟩
theorem w_append (h : wE X o ρ μ fun d μ1 => tyD "list" d μ1 ∧ wA X [e] ρ μ1 fun ds μ2 => wMt X "list" "list.append" d ds μ2 Φ)
    (hbase : attributeBase o "append" X.env (eval o X.env) = eval o X.env := by rfl)
    (hfew : ((backTo cpos (starEach [e] X.env)).all (fun x => !x.1) && (backToKw cpos (keywordEach [] X.env)).all (fun x => x.1.isSome)
      && decide (([e] : List Expr).length + ([] : List Keyword).length + (if ([] : List Keyword).isEmpty then 0 else 1) < 30)) = true := by rfl)
    (hline : (apos.endLine == cpos.line) = true := by rfl) (hs : starEach [e] X.env = (false, eval e X.env) :: starEach [] X.env := by rfl) :
    wE X (.Call (.Attribute o "append" apos) [e] [] cpos) ρ μ Φ := w_bm (by decide) PySem.F.plainAttrs_list PySem.F.slot_list_append PySem.F.type_list_append h hbase hfew hline hs rfl
theorem w_extend (h : wE X o ρ μ fun d μ1 => tyD "list" d μ1 ∧ wA X [e] ρ μ1 fun ds μ2 => wMt X "list" "list.extend" d ds μ2 Φ)
    (hbase : attributeBase o "extend" X.env (eval o X.env) = eval o X.env := by rfl)
    (hfew : ((backTo cpos (starEach [e] X.env)).all (fun x => !x.1) && (backToKw cpos (keywordEach [] X.env)).all (fun x => x.1.isSome)
      && decide (([e] : List Expr).length + ([] : List Keyword).length + (if ([] : List Keyword).isEmpty then 0 else 1) < 30)) = true := by rfl)
    (hline : (apos.endLine == cpos.line) = true := by rfl) (hs : starEach [e] X.env = (false, eval e X.env) :: starEach [] X.env := by rfl) :
    wE X (.Call (.Attribute o "extend" apos) [e] [] cpos) ρ μ Φ := w_bm (by decide) PySem.F.plainAttrs_list PySem.F.slot_list_extend PySem.F.type_list_extend h hbase hfew hline hs rfl
theorem w_pop (h : wE X o ρ μ fun d μ1 => tyD "list" d μ1 ∧ wMt X "list" "list.pop" d [] μ1 Φ) (hbase : attributeBase o "pop" X.env (eval o X.env) = eval o X.env := by rfl) (hline : (apos.endLine == cpos.line) = true := by rfl) :
    wE X (.Call (.Attribute o "pop" apos) [] [] cpos) ρ μ Φ := w_bm0 (by decide) PySem.F.plainAttrs_list PySem.F.slot_list_pop PySem.F.type_list_pop h hbase hline
theorem w_reverse (h : wE X o ρ μ fun d μ1 => tyD "list" d μ1 ∧ wMt X "list" "list.reverse" d [] μ1 Φ) (hbase : attributeBase o "reverse" X.env (eval o X.env) = eval o X.env := by rfl) (hline : (apos.endLine == cpos.line) = true := by rfl) :
    wE X (.Call (.Attribute o "reverse" apos) [] [] cpos) ρ μ Φ := w_bm0 (by decide) PySem.F.plainAttrs_list PySem.F.slot_list_reverse PySem.F.type_list_reverse h hbase hline
theorem w_join (h : wE X o ρ μ fun d μ1 => tyD "str" d μ1 ∧ wE X e ρ μ1 fun d2 μ2 => wMt X "str" "str.join" d [d2] μ2 Φ)
    (hbase : attributeBase o "join" X.env (eval o X.env) = eval o X.env := by rfl) (hline : (apos.endLine == cpos.line) = true := by rfl) (hs : starEach [e] X.env = [(false, eval e X.env)] := by rfl) :
    wE X (.Call (.Attribute o "join" apos) [e] [] cpos) ρ μ Φ := fun F σ H hh sl Q kt =>
  se_of (pe_m1 PySem.F.slot_str_join PySem.F.type_str_join (mt_s (X := X)) pe_s pe_s hs hbase hline) (h F σ H hh sl _ fun u F1 H1 d μ1 ⟨q1, q⟩ e1 hs1 r1 => by
    cases d with
    | str z =>
      cases r1
      exact ⟨⟨z, rfl⟩, q F1 σ H1 hs1 (sl.mono e1) _ fun w F2 H2 d2 μ2 q2 e2 hs2 r2 => q2 F2 H2 _ [w] hs2 (.str z) (.one r2) Q (kt.mono (e1.trans e2))⟩
    | _ => simp [tyD] at q1)
/-! dicts with keys ints and texts -/
theorem w_dget (hu : X.c.A.units + 1 < cLine) (h : wE X o ρ μ fun d1 μ1 => wE X k ρ μ1 fun d2 μ2 => ∃ (q : Addr) (m : Nat) (ds : List (Key × D)) (kk : Key) (d : D), d1 = .ptr q ∧ d2 = kD kk ∧ μ2[m]? = some (q, MO.dk ds) ∧ valD ds kk = some d ∧ Φ d μ2) (hs : NoSl k := by exact fun _ _ => rfl) : wE X (.Subscript o k pos) ρ μ Φ := fun F σ H hh sl Q kt =>
  se_of (pe_dget hu pe_s pe_s hs) (binW h hh sl fun x y F2 H2 d1 d2 μ2 ⟨q, m, ds, kk, d, h1, h2, hm, hv, z⟩ e hs2 r1 r2 => by
    subst h1
    subst h2
    cases r1
    have e2 := rep_kD r2
    subst e2
    obtain ⟨kvs, g, rk⟩ := hs2.dk hm
    obtain ⟨v, hv, rv⟩ := (rk.val kk).1 d hv
    exact ⟨q, v, rfl, by rw [← hv]; exact DGet.k g, kt _ _ _ _ _ z e hs2 rv⟩)
theorem w_dput (hu : X.c.A.units + 1 < cLine) {q0 : Pos} (h : wE X e ρ μ fun d μ0 => wE X o ρ μ0 fun d1 μ1 => wE X k ρ μ1 fun d2 μ2 => ∃ (q : Addr) (m : Nat) (ds : List (Key × D)) (kk : Key), d1 = .ptr q ∧ d2 = kD kk ∧ μ2[m]? = some (q, MO.dk ds) ∧ ds.length < 1000000 ∧ E.nx ρ (μ2.set m (q, .dk (putD ds kk d))))
    (hs : swapsWith e (some (.Subscript o k q0)) pos.line X.env = pure false := by rfl) : wS X (.Assign [.Subscript o k q0] e pos) ρ μ E := fun F σ H hh sl D kt =>
  ss_of (ps_dput hu pe_s pe_s pe_s hs) (h F σ H hh sl _ fun v F0 H0 d μ0 h0 e0 hs0 r0 => binW (R := fun x y H2 => ∃ a H4, x = .ref a ∧ DPut H2 a y v H4 ∧ D.nx σ H4) h0 hs0 (sl.mono e0) fun x y F2 H2 d1 d2 μ2 ⟨q, m, ds, kk, h1, h2, hm, hz, z⟩ e hs2 r1 r2 => by
    subst h1
    subst h2
    cases r1
    have e2 := rep_kD r2
    subst e2
    obtain ⟨kvs, g, rk⟩ := hs2.dk hm
    have hz' : kvs.length < sizeLine := Nat.lt_trans (by rw [← rk.len]; exact hz) (show 1000000 < sizeLine by decide)
    exact ⟨q, _, rfl, DPut.k g hz', kt.nx F2 _ σ ρ _ z (e0.trans e) (hs2.write hm (.dk (rk.put (r0.mono e)))) (sl.mono (e0.trans e))⟩)
theorem w_din (hu : X.c.A.units + 1 < cLine) (h : wE X k ρ μ fun d2 μ1 => wE X o ρ μ1 fun d1 μ2 => ∃ (q : Addr) (m : Nat) (ds : List (Key × D)) (kk : Key), d1 = .ptr q ∧ d2 = kD kk ∧ μ2[m]? = some (q, MO.dk ds) ∧ Φ (.bl (valD ds kk).isSome) μ2) (hm : behindInMarks .In o = false := by rfl) : wE X (.Compare k [.In] [o] pos) ρ μ Φ := fun F σ H hh sl Q kt =>
  se_of (pe_cmp (pc_din hu pe_s pe_s) hm) (binW h hh sl fun y x F2 H2 d2 d1 μ2 ⟨q, m, ds, kk, h1, h2, hm, z⟩ e hs2 r2 r1 => by
    subst h1
    subst h2
    cases r1
    have e2 := rep_kD r2
    subst e2
    obtain ⟨kvs, g, rk⟩ := hs2.dk hm
    refine ⟨q, _, rfl, DGet.k g, ?_⟩
    rw [← (rk.val kk).2]
    exact kt _ _ _ _ _ z e hs2 (.bl _))
theorem w_dnin (hu : X.c.A.units + 1 < cLine) (h : wE X k ρ μ fun d2 μ1 => wE X o ρ μ1 fun d1 μ2 => ∃ (q : Addr) (m : Nat) (ds : List (Key × D)) (kk : Key), d1 = .ptr q ∧ d2 = kD kk ∧ μ2[m]? = some (q, MO.dk ds) ∧ Φ (.bl (!(valD ds kk).isSome)) μ2) (hm : behindInMarks .NotIn o = false := by rfl) : wE X (.Compare k [.NotIn] [o] pos) ρ μ Φ := fun F σ H hh sl Q kt =>
  se_of (pe_cmp (pc_dnotin hu pe_s pe_s) hm) (binW h hh sl fun y x F2 H2 d2 d1 μ2 ⟨q, m, ds, kk, h1, h2, hm, z⟩ e hs2 r2 r1 => by
    subst h1
    subst h2
    cases r1
    have e2 := rep_kD r2
    subst e2
    obtain ⟨kvs, g, rk⟩ := hs2.dk hm
    refine ⟨q, _, rfl, DGet.k g, ?_⟩
    rw [← (rk.val kk).2]
    exact kt _ _ _ _ _ z e hs2 (.bl _))
/-- the pairs of a display -/
def wP (X : Cy) (ρ : Rho) : List (Option Expr) → List Expr → Mu → (List (D × D) → Mu → Prop) → Prop
  | [], [], μ, Ψ => Ψ [] μ
  | some k :: ks, v :: vs, μ, Ψ => wE X k ρ μ fun dk μ1 => wE X v ρ μ1 fun dv μ2 => wP X ρ ks vs μ2 fun ps μ3 => Ψ ((dk, dv) :: ps) μ3
  | _, _, _, _ => False
def sPs (X : Cy) : List (Option Expr) → List Expr → List (TE × TE)
  | some k :: ks, v :: vs => (sE X k, sE X v) :: sPs X ks vs
  | _, _ => []
inductive RepP (K : PySem.W.Frag) (F : Hp) : List (V × V) → List (D × D) → Prop
  | nil : RepP K F [] []
  | cons {u v : V} {d e : D} {ps : List (V × V)} {ds : List (D × D)} : Rep K F u d → Rep K F v e → RepP K F ps ds → RepP K F ((u, v) :: ps) ((d, e) :: ds)
theorem wP.pps {ρ : Rho} : ∀ {ks : List (Option Expr)} {vs : List Expr}, ks.all (·.isSome) = true → ks.length = vs.length → ∀ pos, PPs X pos ks vs (sPs X ks vs)
  | [], [], _, _, pos => pps_nil
  | some k :: ks, v :: vs, h, hl, pos => pps_cons pe_s pe_s (wP.pps (ρ := ρ) (ks := ks) (vs := vs) (by simpa using h) (by simpa using hl) pos)
  | some _ :: _, [], _, h, _ => by simp at h
  | none :: _, _, h, _, _ => by simp at h
  | [], _ :: _, _, h, _ => by simp at h
theorem wP.go {ρ : Rho} : ∀ {ks : List (Option Expr)} {vs : List Expr} {μ : Mu} {Ψ : List (D × D) → Mu → Prop}, wP X ρ ks vs μ Ψ → ∀ {F : Hp} {σ : L2.St} {H : Hp}, Hs X.K F μ H → Sl X.K F ρ σ → ∀ {Q : List (V × V) → Hp → Prop}, (∀ ps F' H' ds μ', Ψ ds μ' → Ex F F' → Hs X.K F' μ' H' → RepP X.K F' ps ds → Q ps H') →
    tPairs (sPs X ks vs) σ H Q
  | [], [], μ, Ψ, h, F, σ, H, hs, sl, Q, kt => kt [] F H [] μ h (Ex.refl F) hs .nil
  | some k :: ks, v :: vs, μ, Ψ, h, F, σ, H, hs, sl, Q, kt => h F σ H hs sl _ fun x F1 H1 d1 μ1 h1 e1 hs1 r1 => h1 F1 σ H1 hs1 (sl.mono e1) _ fun y F2 H2 d2 μ2 h2 e2 hs2 r2 =>
    wP.go (ks := ks) (vs := vs) h2 hs2 (sl.mono (e1.trans e2)) fun ps F3 H3 ds μ3 h3 e3 hs3 r3 => kt _ F3 H3 _ μ3 h3 (e1.trans (e2.trans e3)) hs3 (.cons (r1.mono (e2.trans e3)) (r2.mono e3) r3)
  | some _ :: _, [], μ, Ψ, h, F, σ, H, hs, sl, Q, kt => h.elim
  | none :: _, _, μ, Ψ, h, F, σ, H, hs, sl, Q, kt => h.elim
  | [], _ :: _, μ, Ψ, h, F, σ, H, hs, sl, Q, kt => h.elim
theorem repP_k {K : PySem.W.Frag} {F : Hp} : ∀ {kds : List (Key × D)} {ps : List (V × V)}, RepP K F ps (kds.map fun kv => (kD kv.1, kv.2)) → ∃ kvs : List (Key × V), ps = kvs.map (fun kv => (kV kv.1, kv.2)) ∧ RepK K F kds kvs
  | [], _, .nil => ⟨[], rfl, .nil⟩
  | (k, d) :: kds, _, .cons r1 r2 rr => by
    obtain ⟨kvs, h1, h2⟩ := repP_k rr
    refine ⟨(k, _) :: kvs, ?_, .cons ⟨rfl, r2⟩ h2⟩
    rw [rep_kD r1, h1]
    rfl
/-- {k: v, ..}: a new cell -/
theorem w_disp {ks : List (Option Expr)} {vs : List Expr} (h0 : ks ≠ []) (hall : ks.all (·.isSome) = true) (hl : ks.length = vs.length) (h15 : ks.length ≤ 15)
    (h : ∀ q, wP X ρ ks vs ((q, .dk []) :: μ) fun ps μ1 => ∃ (kds : List (Key × D)) (μ2 : Mu), ps = kds.map (fun kv => (kD kv.1, kv.2)) ∧ kds.length ≤ 15 ∧ μ1 = (q, MO.dk []) :: μ2 ∧ Φ (.ptr q) ((q, MO.dk (mergeD [] kds)) :: μ2)) : wE X (.Dict ks vs pos) ρ μ Φ := fun F σ H hh sl Q kt =>
  se_of (pe_disp (wP.pps (ρ := ρ) hall hl pos) hall hl h0 h15) fun q hq => (h q).go (hh.cell hq (.dk .nil)) sl fun ps F1 H1 ds μ1 ⟨kds, μ2, h1, h2, h3, h4⟩ e1 hs1 r1 => by
    subst h1
    subst h3
    obtain ⟨kvs0, g, rk0⟩ := hs1.dk (i := 0) rfl
    cases rk0
    obtain ⟨kvs, h5, h6⟩ := repP_k r1
    exact ⟨g, kvs, h5, by rw [← h6.len]; exact h2, kt _ F1 _ _ _ h4 e1 (hs1.write (i := 0) rfl (.dk (h6.merge .nil))) (.ptr q)⟩
theorem w_dnew (h : ∀ q, Φ (.ptr q) ((q, .dk []) :: μ)) : wE X (.Dict [] [] pos) ρ μ Φ := fun F σ H hh sl Q kt => se_of pe_dnewK fun q hq => kt _ F _ _ _ (h q) (Ex.refl F) (hh.cell hq (.dk .nil)) (.ptr q)
theorem w_dnewT (h : ∀ q, Φ (.ptr q) ((q, .dt []) :: μ)) : wE X (.Dict [] [] pos) ρ μ Φ := fun F σ H hh sl Q kt => se_of pe_dnewT fun q hq => kt _ F _ _ _ (h q) (Ex.refl F) (hh.cell hq (.dt .nil)) (.ptr q)
end
end Oc
namespace Oc
open PySem PySem.Spec L2
open Evl (Ex)
section
variable {P : Program} {w : World} {K : PySem.W.Frag} {mg : Str → Option Value} {base : Heap}
/-- a def of the text as it stands behind the top -/
structure Src (K : PySem.W.Frag) (mg : Str → Option Value) (x : Str) (st : Stmt) (ps : List Str) : Prop where
  ex : ∃ f fd, Fun K x x st f fd ∧ mg x = some (.ref f) ∧ Binds K fd ps []
theorem src_mk {x : Str} {st : Stmt} {ps : List Str} {f : Addr} {oc : Value} {od an : Option Addr} {osl : Array (Option Value)} {kV doc pm cdv ct : Value} (hm : mg x = some (.ref f)) (l : K.lookup f = some ⟨oc, od, .func (PySem.W.fnOf x x (defArgs st) (defBody st) (defScope st) .none kV doc pm an cdv ct), osl⟩)
    (c : PySem.W.codeIn K cdv x = true) (k : PySem.W.keepIn K (.ref f) = true)
    (h : ∀ (kV doc pm : Value) (an : Option Addr) (cdv ct : Value) (us : List Value), us.length = ps.length → bindArgs (PySem.W.fnOf x x (defArgs st) (defBody st) (defScope st) .none kV doc pm an cdv ct) ⟨us, []⟩ = pure (ps.zip us)) : Src K mg x st ps :=
  ⟨f, _, fun_mk l c k, hm, (fun_mk l c k).binds h⟩
end
section
variable {X : Cy} {e : Expr} {es : List Expr} {st : Stmt} {sts : List Stmt} {ρ : Rho} {μ : Mu} {Φ : D → Mu → Prop} {E : En} {pos p : Pos}
/-- a word between a statement and the rest -/
theorem w_cut (M : Rho → Mu → Prop) (h : wS X st ρ μ { E with nx := M }) (k : ∀ ρ' μ', M ρ' μ' → wSs X sts ρ' μ' E) : wSs X (st :: sts) ρ μ E := fun F σ H hs sl D kt =>
  w_cons (E := E) (fun F σ H hs sl D kt => h F σ H hs sl _ ⟨fun F1 H1 σ1 ρ1 μ1 q e1 hs1 sl1 => kt.nx F1 H1 σ1 ρ1 μ1 (k ρ1 μ1 q) e1 hs1 sl1, kt.rt, kt.bk, kt.ct⟩) F σ H hs sl D kt
end
/-- the end: law(script) -/
def S_law : FS := fun ds μ Φ => ∃ ns : List Int, ds = [.scr (ns.map D.int)] ∧ ns.length ≤ 63 ∧ ∀ μ', Φ (.bl true) μ'
theorem law_end {K : PySem.W.Frag} {a : Addr} {ns : List Int} {H : Hp} {Q : VK} {E : XK} (hS : SqL K H a (ns.map V.int)) (hl : ns.length ≤ 63) (q : ∀ H', Q (.bl true) H') : spD K S_law [.ref a] H Q E :=
  ⟨fun _ => none, H, [.scr (ns.map D.int)], [], fun d _ => d = .bl true, Hs.of_still (fun a o z => nomatch z), .one (.scr hS (reps_map (fun n => .int n) ns)), ⟨ns, rfl, hl, fun _ => rfl⟩, fun v F' H' d μ' h _ _ r => by subst h; cases r; exact q H'⟩
end Oc

/-! Own layer, part 5: lists of whole numbers compared. -/
namespace Oc
open PySem PySem.Spec L2
open Evl (Ex)
theorem pys_map {α : Type} {f : α → D} : ∀ l : List α, D.pys (l.map f) = l.map fun a => (f a).py
  | [] => by rw [List.map_nil, List.map_nil, D.pys]
  | a :: l => by rw [List.map_cons, List.map_cons, D.pys, pys_map l]
theorem stills_map {α : Type} {f : α → D} (h : ∀ a, (f a).still = true) : ∀ l : List α, D.stills (l.map f) = true
  | [] => by rw [List.map_nil, D.stills]
  | a :: l => by rw [List.map_cons, D.stills, h a, stills_map h l]; rfl
theorem eqvAll_ints : ∀ ns ms : List Int, PyData.eqvAll (ns.map PyData.int) (ms.map PyData.int) = decide (ns = ms)
  | [], [] => by simp [PyData.eqvAll]
  | [], _ :: _ => by simp [PyData.eqvAll]
  | _ :: _, [] => by simp [PyData.eqvAll]
  | n :: ns, m :: ms => by
    rw [List.map_cons, List.map_cons, PyData.eqvAll, PyData.eqv, eqvAll_ints ns ms, Bool.eq_iff_iff]
    simp
theorem canLay_ints : ∀ ns : List Int, PyData.canLayAll0 (ns.map PyData.int) = true
  | [] => by simp [PyData.canLayAll0]
  | n :: ns => by rw [List.map_cons, PyData.canLayAll0, PyData.canLay0, canLay_ints ns]; rfl
theorem depth_ints : ∀ ns : List Int, PyData.depthAll (ns.map PyData.int) ≤ 1
  | [] => by simp [PyData.depthAll]
  | n :: ns => by
    have h := depth_ints ns
    rw [List.map_cons, PyData.depthAll]
    simp only [PyData.depth] at *
    omega
theorem shaped_ints (ns : List Int) : SeqAt.shaped (.list (ns.map PyData.int)) = true := by
  unfold SeqAt.shaped
  have h := depth_ints ns
  rw [Bool.and_eq_true]
  refine ⟨by rw [PyData.canLay0]; exact canLay_ints ns, decide_eq_true ?_⟩
  simp only [PyData.depth]
  omega
section
variable {X : Cy} {μ : Mu} {Φ : D → Mu → Prop}
theorem py_ints (ns : List Int) : (D.lst (ns.map D.int)).py = .list (ns.map PyData.int) := by
  rw [D.py, pys_map]
  rfl
theorem o_eqIL (hu : X.c.A.units + 64 < cLine) (ns ms : List Int) {d1 d2 : D} (h1 : d1 = .lst (ns.map D.int)) (h2 : d2 = .lst (ms.map D.int)) (k : Φ (.bl (decide (ns = ms))) μ) : wOp X (compareOp .Eq) d1 d2 μ Φ := by
  subst h1 h2
  refine o_eqD hu (by rw [D.still]; exact stills_map (fun _ => rfl) ns) (by rw [D.still]; exact stills_map (fun _ => rfl) ms) (by rw [py_ints]; exact shaped_ints ns) (by rw [py_ints]; exact shaped_ints ms) ?_
  rw [py_ints, py_ints, PyData.eqv, eqvAll_ints]
  exact k
theorem o_neIL (hu : X.c.A.units + 64 < cLine) (ns ms : List Int) {d1 d2 : D} (h1 : d1 = .lst (ns.map D.int)) (h2 : d2 = .lst (ms.map D.int)) (k : Φ (.bl (!decide (ns = ms))) μ) : wOp X (compareOp .NotEq) d1 d2 μ Φ := by
  subst h1 h2
  refine o_neD hu (by rw [D.still]; exact stills_map (fun _ => rfl) ns) (by rw [D.still]; exact stills_map (fun _ => rfl) ms) (by rw [py_ints]; exact shaped_ints ns) (by rw [py_ints]; exact shaped_ints ms) ?_
  rw [py_ints, py_ints, PyData.eqv, eqvAll_ints]
  exact k
end
end Oc
namespace Oc
open PySem PySem.Spec L2
theorem wt_b {X : Cy} {e : Expr} {ρ : Rho} {μ : Mu} {ΦT : Bool → Mu → Prop} (b : Bool) (h : wT X e ρ μ fun k μ1 => k = b ∧ μ1 = μ) (q : ΦT b μ) : wT X e ρ μ ΦT := wt_mono h fun k μ1 ⟨h1, h2⟩ => by subst h1 h2; exact q
end Oc

/-! Own layer, guarded: a def's promise where no repr is under way, so that repr of nested data may be told. -/
namespace Oc
open PySem PySem.Spec L2
open Evl (Ex)
/-- room, and no repr under way -/
structure Rm (k : Nat) (A : Around) : Prop where
  r : Room k A
  g : A.guards = some []
theorem Rm.le {j k : Nat} {A : Around} (h : Rm k A) (q : j ≤ k) : Rm j A := ⟨h.r.mono q, h.g⟩
theorem Rm.units {k : Nat} {A : Around} (h : Rm k A) : A.units + 64 < cLine := h.r.units
theorem Rm.in {k : Nat} {A : Around} (h : Rm (k + 1) A) (env : Env) : Rm k (A.deeper env) := ⟨h.r.deeper env, h.g⟩
/-- a def's promise, where no repr is under way -/
structure FnG (P : Program) (w : World) (K : PySem.W.Frag) (mg : Str → Option Value) (base : Heap) (k : Nat) (f : Addr) (fd : FuncData) (ps : List Str) (S : FS) : Prop where
  len : ∀ ds μ Φ, S ds μ Φ → ds.length = ps.length
  run : ∀ (A : Around) (outer : List Env) (s : Shared) (H : Hp) (args : Args) (us : List Value) (vs : List V) (Q : VK), Rm k A → Env0 P w K mg base A outer s H → BindsTo s fd args (ps.zip us) → Vals vs us → spD K S vs H Q E0 →
    codeAny (model P w) A (.call (.ref f) args) (CR CX0 outer P w H s Q E0) s
theorem spD_len {K : PySem.W.Frag} {S : FS} {n : Nat} (len : ∀ ds μ Φ, S ds μ Φ → ds.length = n) {vs : List V} {H : Hp} {Q : VK} {E : XK} (h : spD K S vs H Q E) : vs.length = n := by
  obtain ⟨_, _, ds, μ, Φ, _, r, q, _⟩ := h
  exact r.length.trans (len ds μ Φ q)
section
variable {X : Cy} {k : Nat} {f : Addr} {fd : FuncData} {ps : List Str} {S : FS}
theorem fnG_run {pins : List (Addr × Obj)} {σ : L2.St} {H : Hp} {s : Shared} {Q : VK} {us : List Value} {vs : List V} (F : FnG X.prog X.w X.K X.mg X.base k f fd ps S) (hr : Rm k X.A) (hb : Binds X.K fd ps []) (I : Inv X pins σ H s) (r : Vals vs us) (h : spD X.K S vs H Q E0) :
    wpAny (model X.prog X.w) X.A (call (.ref f) us) (EP X pins σ Q) X.xe s := by
  have n1 : (us ++ []).length = ps.length := by rw [List.append_nil, ← r.length]; exact spD_len F.len h
  have b1 := hb s us I.kIn n1
  rw [List.append_nil] at b1
  refine wpAny_call (codeAny_mono (F.run X.A X.stack s H ⟨us, []⟩ us vs Q hr I.env0 b1 r h) fun res s2 hq => ?_)
  rcases res with e | fl
  · exact False.elim hq
  · cases fl <;> first | exact I.after hq | exact False.elim hq
end
section
open PyProof.Rows
variable {P : Program} {w : World} {K : PySem.W.Frag} {mg : Str → Option Value} {base : Heap}
theorem fnG_of {x : Str} {st : Stmt} {f : Addr} {fd : FuncData} {N ps : List Str} {k : Nat} {S : FS} (F : Fun K x x st f fd) (Sc : FnScope N ps (defScope st)) (len : ∀ ds μ Φ, S ds μ Φ → ds.length = ps.length)
    (body : ∀ (cdv : Value) (A : Around) (outer : List Env) (s : Shared) (H : Hp) (E : XK) (g : Hp), Rm k (A.deeper (envOfC x (defScope st) s.heap.objs.size f cdv)) → ∀ ds μ Φ, S ds μ Φ →
      wSs ⟨(cxOf CX0 P w K mg base N x (defScope st) f cdv A outer s H E).nox, g⟩ (defBody st) (rho N ds) μ { nx := fun _ μ' => Φ .non μ', rt := Φ }) : FnG P w K mg base (k + 1) f fd ps S := by
  obtain ⟨oc, od, kV, doc, pm, an, cdv, ct, osl, rfl, lk, hcd⟩ := F.ex
  refine ⟨len, fun A outer s H args us vs Q hr e0 hb r hsp => ?_⟩
  have hl := spD_len len hsp
  have kS : K.In s.heap := e0.mod.kin.keeps fun b o e => (e0.bs b o e).1
  have nl : s.heap.NoLimit := Heap.NoLimit.keeps e0.mod.nolimit fun b o e => (e0.bs b o e).1
  have kinds : ∀ y ∈ ps.zip us, (defScope st).names.lookup y.1 = some .local ∨ ((defScope st).names.lookup y.1 = some .cell ∧ ((cellsFrom (s.heap.objs.size + 1) (defScope st).names []).lookup y.1).isSome = true) := by
    rintro ⟨n, v⟩ hy
    exact (Sc.par n (List.of_mem_zip hy).1).imp id fun q => ⟨q, PySem.W.cellsFrom_some _ _ _ (.inl q)⟩
  refine codeAny_call_function hr.r.depth (kS _ _ lk) rfl Sc.co Sc.gen rfl (PySem.W.codeRec_of kS hcd) (hb _ _ _ _ (wpAny_newFunctionEnv_cells Sc.kind kinds fun env he s1 x1 => ?_))
  subst he
  refine ⟨nl.keeps x1.toInCall.keep, codeAny_func ?_⟩
  have I : Inv (cxOf CX0 P w K mg base N x (defScope st) f cdv A outer s H E0) [] (L2.start N vs) H s1 := inv_start Sc hr.r.hd e0 hl r x1
  obtain ⟨g, F', ds, μ, Φ, hs, rr, q, kt⟩ := hsp
  have B := body cdv A outer s H E0 g (hr.in _) ds μ Φ q F' (L2.start N vs) H hs (sl_start rr) { nx := fun _ H' => Q .non H', rt := Q, bk := fun _ _ => False, ct := fun _ _ => False }
    ⟨fun F1 H1 σ1 ρ1 μ1 q e1 hs1 sl1 => kt .non F1 H1 .non μ1 q e1 hs1 .non, kt, fun F1 H1 σ1 ρ1 μ1 q => False.elim q, fun F1 H1 σ1 ρ1 μ1 q => False.elim q⟩
  have B2 := (PSs.nox (X := cxOf CX0 P w K mg base N x (defScope st) f cdv A outer s H E0) (pss_s (X := ⟨(cxOf CX0 P w K mg base N x (defScope st) f cdv A outer s H E0).nox, g⟩))).run [] s1 (L2.start N vs) H _ I B
  refine wpAny_mono B2 (fun fl s' z => ?_) fun e s' z => z
  have fin : ∀ {σ' : L2.St} {H' : Hp} {v : V} {u : Value}, Inv (cxOf CX0 P w K mg base N x (defScope st) f cdv A outer s H E0) [] σ' H' s' → RelV v u → Q v H' → CE outer P w H s Q u s' := fun {_ H' v _} J rv q => ⟨v, H', J.os, J.bare, J.base, J.hok, rv, q⟩
  cases fl with
  | next => obtain ⟨_, _, J, q⟩ := z; exact fin (v := .non) (u := .none) J rfl q
  | ret u => obtain ⟨_, _, _, J, rv, q⟩ := z; exact fin J rv q
  | brk => obtain ⟨_, _, _, q⟩ := z; exact q.elim
  | cont => obtain ⟨_, _, _, q⟩ := z; exact q.elim
/-- a def whose promise is shown -/
structure KnG (P : Program) (w : World) (K : PySem.W.Frag) (mg : Str → Option Value) (base : Heap) (k : Nat) (x : Str) (ps : List Str) (S : FS) : Prop where
  ex : ∃ f fd, mg x = some (.ref f) ∧ PySem.W.keepIn K (.ref f) = true ∧ Binds K fd ps [] ∧ FnG P w K mg base k f fd ps S
theorem kn_ofG {x : Str} {st : Stmt} {N ps : List Str} {k : Nat} {S : FS} (B : Src K mg x st ps) (Sc : FnScope N ps (defScope st)) (len : ∀ ds μ Φ, S ds μ Φ → ds.length = ps.length)
    (body : ∀ (f : Addr) (cdv : Value) (A : Around) (outer : List Env) (s : Shared) (H : Hp) (E : XK) (g : Hp), Rm k (A.deeper (envOfC x (defScope st) s.heap.objs.size f cdv)) → ∀ ds μ Φ, S ds μ Φ →
      wSs ⟨(cxOf CX0 P w K mg base N x (defScope st) f cdv A outer s H E).nox, g⟩ (defBody st) (rho N ds) μ { nx := fun _ μ' => Φ .non μ', rt := Φ }) : KnG P w K mg base (k + 1) x ps S := by
  obtain ⟨f, fd, F, hm, hb⟩ := B.ex
  exact ⟨f, fd, hm, F.kp, hb, fnG_of F Sc len (body f)⟩
end
section
variable {X : Cy} {e : Expr} {es : List Expr} {ρ : Rho} {μ : Mu} {Φ : D → Mu → Prop} {pos p : Pos}
theorem w_callG {x : Str} {k k0 : Nat} {ps : List Str} {S : FS} (G : KnG X.prog X.w X.K X.mg X.base k x ps S) (hr : Rm k0 X.A) (h : wA X (e :: es) ρ μ fun ds μ1 => S ds μ1 Φ) (hk : k ≤ k0 := by decide) (hg : Gl X x := by rfl) (hdb : (x == ("__debug__" : Str)) = false := by decide)
    (he : starEach (e :: es) X.env = (false, eval e X.env) :: starEach es X.env := by rfl) (hpl : (backTo pos (starEach es X.env)).any (·.1) = false := by rfl) : wE X (.Call (.Name x p) (e :: es) [] pos) ρ μ Φ := by
  obtain ⟨f, fd, hm, kp, hb, G⟩ := G.ex
  have P1 : PE X (.Call (.Name x p) (e :: es) [] pos) fun σ H Q => sA X (e :: es) σ H fun vs H1 => spD X.K S vs H1 Q E0 := ⟨fun pins s σ H Q I h => wpAny_Call_Name_kw (ld_glob I hg hm
    (PySem.W.callWith_K (h₀ := X.base) I.ok.mod.kin kp (thn (pa_s.run pos pins s σ H _ I h) fun us s1 ⟨vs, H1, I1, r, q⟩ => ⟨I1.kIn, fnG_run G (hr.le hk) hb I1 r q⟩) he hpl) hdb)⟩
  exact fun F σ H hs sl Q kt => se_of P1 (h F σ H hs sl _ fun xs F1 H1 ds μ1 q e1 hs1 r1 => ⟨X.g, F1, ds, μ1, Φ, hs1, r1, q, kt.mono e1⟩)
/-! repr -/
mutual
/-- the data behind a value: cells as they are now -/
inductive Shw (μ : Mu) : D → PyData → Prop
  | non : Shw μ .non .none
  | bl (b : Bool) : Shw μ (.bl b) (.bool b)
  | int (i : Int) : Shw μ (.int i) (.int i)
  | str (x : Str) : Shw μ (.str x) (.str x)
  | tup {ds : List D} {ys : List PyData} : Shws μ ds ys → Shw μ (.tup ds) (.tuple ys)
  | tpl {ds : List D} {ys : List PyData} : Shws μ ds ys → Shw μ (.tpl ds) (.tuple ys)
  | lst {ds : List D} {ys : List PyData} : Shws μ ds ys → Shw μ (.lst ds) (.list ys)
  | scr {ds : List D} {ys : List PyData} : Shws μ ds ys → Shw μ (.scr ds) (.list ys)
  | ptr {q : Addr} {i : Nat} {ds : List D} {ys : List PyData} : μ[i]? = some (q, .lst ds) → Shws μ ds ys → Shw μ (.ptr q) (.list ys)
inductive Shws (μ : Mu) : List D → List PyData → Prop
  | nil : Shws μ [] []
  | cons {d : D} {ds : List D} {y : PyData} {ys : List PyData} : Shw μ d y → Shws μ ds ys → Shws μ (d :: ds) (y :: ys)
end
mutual
theorem Shw.of_still (μ : Mu) : ∀ {d : D}, D.still d = true → Shw μ d d.py
  | .non, _ => .non
  | .bl b, _ => .bl b
  | .int i, _ => .int i
  | .str x, _ => .str x
  | .tup l, h => .tup (Shws.of_still μ (by simpa [D.still] using h))
  | .tpl l, h => .tpl (Shws.of_still μ (by simpa [D.still] using h))
  | .lst l, h => .lst (Shws.of_still μ (by simpa [D.still] using h))
  | .scr l, h => .scr (Shws.of_still μ (by simpa [D.still] using h))
  | .ptr a, h => absurd h (by simp [D.still])
  | .ty a, h => absurd h (by simp [D.still])
  | .dct _ _, h => absurd h (by simp [D.still])
theorem Shws.of_still (μ : Mu) : ∀ {d : List D}, D.stills d = true → Shws μ d (D.pys d)
  | [], _ => .nil
  | d :: ds, h => by
    rw [D.stills, Bool.and_eq_true] at h
    exact .cons (Shw.of_still μ h.1) (Shws.of_still μ h.2)
end
theorem Hs.cellAt {K : KF} {F : Hp} {μ : Mu} {H : Hp} (hs : Hs K F μ H) {i : Nat} {q : Addr} {ds : List D} (h : μ[i]? = some (q, .lst ds)) : ∃ xs, H q = some (.lst xs) ∧ Reps K F xs ds := hs.lst h
mutual
theorem shw_dp {K : KF} {F : Hp} {μ : Mu} {H : Hp} (hs : Hs K F μ H) : ∀ {d : D} {y : PyData} {v : V}, Shw μ d y → Rep K F v d → Dp K H v y
  | _, _, _, .non, .non => .non
  | _, _, _, .bl b, .bl _ => .bl b
  | _, _, _, .int i, .int _ => .int i
  | _, _, _, .str x, .str _ => .str x
  | _, _, _, .tup h, .tup g r => .tup ((Evl.st_of (hs.ex _ _ g))) (shws_dp hs h r)
  | _, _, _, .tpl h, .tpl g _ _ r => .tup (.inl (.inr ⟨_, hs.ex _ _ g⟩)) (shws_dp hs h r)
  | _, _, _, .lst h, .lst g r => .lst (Evl.sq_of (hs.ex _ _ g)) (shws_dp hs h r)
  | _, _, _, .scr h, .scr g r => .lst (Evl.ex_l hs.ex g) (shws_dp hs h r)
  | _, _, _, .ptr hi h, .ptr _ => by
    obtain ⟨xs, g, r⟩ := hs.cellAt hi
    exact .lst (Evl.sq_of g) (shws_dp hs h r)
theorem shws_dp {K : KF} {F : Hp} {μ : Mu} {H : Hp} (hs : Hs K F μ H) : ∀ {d : List D} {y : List PyData} {v : List V}, Shws μ d y → Reps K F v d → DpAll K H v y
  | _, _, _, .nil, .nil => .nil
  | _, _, _, .cons h hh, .cons r rr => .cons (shw_dp hs h r) (shws_dp hs hh rr)
end
/-- repr(d) -/
theorem c_repr {d : D} (y : PyData) {k0 : Nat} (hr : Rm k0 X.A) (hd : Shw μ d y) (hnd : y.hasDict = false) (hsh : y.showable = true) (hz : y.shown.length ≤ sizeLine) (hdep : y.depth ≤ 60) (k : Φ (.str y.shown) μ) : wCl X (.builtin "repr") [d] μ Φ := by
  intro F H xs hs r1 Q kt pins s σ us I rv
  cases r1 with
  | cons r rr =>
  cases rr
  have dp := shw_dp hs hd r
  have hu := hr.units
  have q0 := kt.now k hs (.str y.shown)
  obtain ⟨u, rfl, r2⟩ := vals1 rv
  obtain ⟨as, rd⟩ := Dp.reads I y _ u dp r2
  cases rd with
  | none => exact PySem.P.repr_of_none ⟨.str _, H, I.tok _, ⟨_, rfl⟩, by simpa only [PyData.shown] using q0⟩
  | bool b => exact PySem.P.repr_of_bool ⟨.str _, H, I.tok _, ⟨_, rfl⟩, by simpa only [PyData.shown] using q0⟩
  | int i t => exact PySem.P.repr_of_int (by simpa [PyData.showable] using hsh) ⟨.str _, H, I.tok _, ⟨_, rfl⟩, by simpa only [PyData.shown] using q0⟩
  | str x t => exact PySem.P.repr_of_str ⟨.str _, H, I.tok _, ⟨_, rfl⟩, by simpa only [PyData.shown] using q0⟩ (by simpa only [PyData.shown] using hz)
  | list h1 h2 h3 h4 => exact repr_of_reads' (.list h1 h2 h3 h4) hsh (PyData.noDict_hsm hnd) hr.g (by omega) (fun _ _ e => e) (fun h' u tk hk => ⟨.str _, H, I.kept hk, ⟨_, rfl⟩, q0⟩) hz
  | tuple h1 h2 h3 h4 => exact repr_of_reads' (.tuple h1 h2 h3 h4) hsh (PyData.noDict_hsm hnd) hr.g (by omega) (fun _ _ e => e) (fun h' u tk hk => ⟨.str _, H, I.kept hk, ⟨_, rfl⟩, q0⟩) hz
  | dict h1 h2 h3 h4 h5 => simp [PyData.hasDict] at hnd
end
/-! the law's end -/
open PyProof.Rows in
theorem law_callG {P : Program} {w : World} {K : PySem.W.Frag} {mg mb : Str → Option Value} {k : Nat} {fa a : Addr} {fd : FuncData} {x : Str} {t : Shared} {vs : List Value} {ns : List Int}
    (kT : K.In t.heap) (hns : t.heap.Ns mainGlobals mg) (hb : t.heap.Ns builtinsNs mb) (hbb : ∀ y : Str, y ≠ "__name__" → mb y = bootBuiltins y) (nl : t.heap.NoLimit) (hg : t.gens = #[]) (ha : t.heap.get? a = some { cls := .type "list", data := .seq vs.toArray }) (hi : IntsAre vs ns)
    (hl : ns.length ≤ 63) (hr : Rm k callerA) (F : ∀ base : Heap, K.In base → base.Ns mainGlobals mg → FnG P w K mg base k fa fd [x] S_law) (bind : ∀ (s : Shared) (u : Value), BindsTo s fd ⟨[u], []⟩ [(x, u)]) :
    codeAny (model P w) callerA (.call (.ref fa) ⟨[.ref a], []⟩) (fun r s' => r = .ok (.ret (.bool true)) ∧ OldK t.heap s'.heap ∧ s'.os = t.os ∧ AllBare s'.gens) t := by
  have vals := vals_ints hi
  have lenV := hi.length
  have hz : ns.length ≤ sizeLine := Nat.le_trans hl (by decide)
  suffices goal : ∀ H : Hp, Only H → SqL K H a (ns.map V.int) → HOk P w H t.heap → (∀ b, H b ≠ none → b = a) → (H a ≠ none → K.lookup a = none) → codeAny (model P w) callerA (.call (.ref fa) ⟨[.ref a], []⟩) (fun r s' => r = .ok (.ret (.bool true)) ∧ OldK t.heap s'.heap ∧ s'.os = t.os ∧ AllBare s'.gens) t by
    rcases hk : K.lookup a with _ | ob
    · let H1 : Hp := fun b => if b = a then some (.frz { cls := .type "list", data := .seq vs.toArray } (.lst (ns.map V.int))) else none
      have at1 : H1 a = some (.frz { cls := .type "list", data := .seq vs.toArray } (.lst (ns.map V.int))) := if_pos rfl
      have off : ∀ b, b ≠ a → H1 b = none := fun b z => if_neg z
      refine goal H1 (fun b => ?_) (.inl (.inr ⟨_, at1⟩)) (fun b u z => ?_) (fun b z => Classical.byContradiction fun hb => z (off b hb)) fun _ => hk
      · rcases Classical.em (b = a) with rfl | hb
        · exact .inr ⟨_, _, at1⟩
        · exact .inl (off b hb)
      · rcases Classical.em (b = a) with rfl | hb
        · rw [at1] at z
          cases z
          exact ⟨ha, by rw [List.length_map]; exact hz, vs, _, vals, ha⟩
        · rw [off b hb] at z
          cases z
    · have e := kT a ob hk
      rw [ha] at e
      cases e
      exact goal (fun _ => none) (fun _ => .inl rfl) (.inr ⟨_, vs.toArray, _, hk, rfl, rfl, rfl, by rw [List.size_toArray, lenV]; exact hz, by simpa using vals⟩) (fun b u z => nomatch z) (fun b z => absurd rfl z) fun z => absurd rfl z
  intro H onl sq hok one apart
  have out : ∀ {b : Addr} {o : Obj}, t.heap.get? b = some o → H b = none → (hidT t.heap H).get? b = some o := fun e n => hidT_get e n
  have isA : ∀ {b : Addr}, ¬ H b = none → b = a := fun {b} z => one b z
  have dicts : ∀ {b : Addr} {o : Obj} {es : Array DictEntry} {ep : Nat}, t.heap.get? b = some o → o.data = .dict es ep → H b = none := fun {b o es ep} e d => Classical.byContradiction fun z => by
    rw [isA z, ha] at e
    cases e
    exact absurd (show Data.seq vs.toArray _ = Data.dict es ep from d) nofun
  have nsH : ∀ {b : Addr} {m : Str → Option Value}, t.heap.Ns b m → (hidT t.heap H).Ns b m := fun {b m} ⟨o, es, ep, e, d, r⟩ => ⟨o, es, ep, out e (dicts e d), d, r⟩
  have kH : K.In (hidT t.heap H) := fun b o e => out (kT b o e) (Classical.byContradiction fun z => by
    have eb := isA z
    rw [eb] at z e
    rw [apart z] at e
    cases e)
  have md : Mod K mg (hidT t.heap H) := ⟨kH, nsH hns, ⟨mb, nsH hb, hbb⟩, let ⟨mc, h1, h2⟩ := nl; ⟨mc, nsH h1, h2⟩⟩
  have e0 : Env0 P w K mg (hidT t.heap H) callerA [] t H := ⟨rfl, md, fun b o e => of_hidT e, Nat.le_of_eq (hidT_size _ _), trivial, fun b hb => (nomatch hb), hok, AllBare.of_eq hg⟩
  refine codeAny_mono ((F _ kH (nsH hns)).run callerA [] t H ⟨[.ref a], []⟩ [.ref a] [.ref a] (fun v _ => v = .bl true) hr e0 (bind t (.ref a)) (.cons rfl .nil) (law_end sq hl fun _ => rfl)) fun r s' h => ?_
  rcases r with e | fl
  · exact h.elim
  · cases fl with
    | ret u =>
      obtain ⟨v, H', os, bare, un, hok', r', q⟩ := h
      obtain rfl : v = .bl true := q
      obtain rfl : u = Value.bool true := r'
      refine ⟨rfl, OldK.of_keep fun b o e => ?_, os, bare⟩
      rcases onl b with z | ⟨ob, xs, z⟩
      · exact un.keep b o e z (fun z => nomatch z) (fun z => nomatch z)
      · have g1 := (hok b _ z).1
        rw [e] at g1
        cases g1
        exact (hok' b _ (un.frzs b _ _ z)).1
    | next => exact h.elim
    | brk => exact h.elim
    | cont => exact h.elim
theorem walk_ofG {l : PySem.W.OpenLaw} {k : Nat} {q : Program} {loose : List Str} {XP : (Str → Option Value) → Heap → Prop} {YP : World → Heap → Prop} {d : DefRec} {K : Params → PySem.W.Frag} {x : Str} (hn : l.most = some 63) (hdf : d.params.defaults = []) (hr : Room k callerA)
    (hY : ∀ (w : World) (h : Heap), YP w h → (K w.params).In h)
    (F : ∀ (w : World) (mg : Str → Option Value) (fa : Addr) (h : Heap), (K w.params).In h → h.Ns mainGlobals mg → mg d.name = some (.ref fa) →
      ∃ fd : FuncData, (∀ (s : Shared) (u : Value), BindsTo s fd ⟨[u], []⟩ [(x, u)]) ∧ ∀ base : Heap, (K w.params).In base → base.Ns mainGlobals mg → FnG l.prog w (K w.params) mg base k fa fd [x] S_law) :
    PySem.W.WalkO q loose XP YP l.row.toRowW d [] (fun f vs => PySem.call f vs) := by
  refine Att.attach_call hn hdf fun w s₀ t mg mb fa o pm cd doc a vs ns G Y ho hd hcd hmg hobj hints hlen hg => ?_
  obtain ⟨fd, hb, hF⟩ := F w mg fa _ (hY w _ Y) G.T.g hmg
  exact law_callG (hY w _ Y) G.T.g G.T.b G.T.builtins G.T.nolimit hg hobj hints hlen ⟨hr, rfl⟩ hF hb
end Oc

/-! Own layer: slices, a store into a list, sorted. -/
namespace Oc
open PySem PySem.Spec L2
open Evl (Ex)
section
variable {X : Cy} {e o i : Expr} {lo hi : Option Expr} {es : List Expr} {ρ : Rho} {μ : Mu} {Φ : D → Mu → Prop} {E : En} {pos p p2 : Pos}
/-- a slice's part -/
def wO (X : Cy) (o : Option Expr) (ρ : Rho) (μ : Mu) (Φ : Option Int → Mu → Prop) : Prop := match o with
  | none => Φ none μ
  | some e => wE X e ρ μ fun d μ1 => ∃ i, d = .int i ∧ Φ (some i) μ1
def tO (X : Cy) (o : Option Expr) : TO := match o with
  | none => tNoPart
  | some e => tPart (sE X e)
theorem po_s {o : Option Expr} : PO X o (tO X o) := match o with
  | none => po_none
  | some e => po_some pe_s
theorem wO_go {o : Option Expr} {Ψ : Option Int → Mu → Prop} (h : wO X o ρ μ Ψ) {F H : Hp} {σ : L2.St} (hs : Hs X.K F μ H) (sl : Sl X.K F ρ σ) {Q : Option Int → Hp → Prop} (q : ∀ i F' H' μ', Ψ i μ' → Ex F F' → Hs X.K F' μ' H' → Q i H') : tO X o σ H Q := by
  cases o with
  | none => exact q _ F H μ h (Ex.refl F) hs
  | some e =>
    refine h F σ H hs sl _ ?_
    rintro v F1 H1 d μ1 ⟨i, rfl, z⟩ e1 hs1 r1
    cases r1
    exact ⟨i, rfl, q _ F1 H1 μ1 z e1 hs1⟩
/-- the items of xs[lo:hi] -/
def cutD (xs : List D) (lo hi : Option Int) : List D := (xs.drop (HT.sIx xs.length 0 lo)).take (HT.sIx xs.length xs.length hi - HT.sIx xs.length 0 lo)
theorem cut_reps {K : PySem.W.Frag} {F : Hp} {v : List V} {d : List D} (r : Reps K F v d) (a b : Option Int) : Reps K F (cutV v a b) (cutD d a b) := by
  unfold cutV cutD
  rw [r.length]
  exact (r.drop _).take _
theorem cutD_to (xs : List D) (n : Nat) : cutD xs none (some (n : Int)) = xs.take n := by
  unfold cutD
  rw [HT.sIx_nat, HT.sIx_none, List.drop_zero, Nat.sub_zero]
  rcases Nat.le_total n xs.length with h | h
  · rw [Nat.min_eq_left h]
  · rw [Nat.min_eq_right h, List.take_of_length_le (Nat.le_refl _), List.take_of_length_le h]
theorem cutD_from (xs : List D) (n : Nat) : cutD xs (some (n : Int)) none = xs.drop n := by
  unfold cutD
  rw [HT.sIx_nat, HT.sIx_none]
  rcases Nat.le_total n xs.length with h | h
  · rw [Nat.min_eq_left h, List.take_of_length_le (by rw [List.length_drop]; exact Nat.le_refl _)]
  · rw [Nat.min_eq_right h, List.drop_of_length_le (Nat.le_refl _), List.drop_of_length_le h, List.take_nil]
theorem cutD_fromTo (xs : List D) (m n : Nat) (hm : m ≤ xs.length) (hn : n ≤ xs.length) : cutD xs (some (m : Int)) (some (n : Int)) = (xs.drop m).take (n - m) := by
  unfold cutD
  rw [HT.sIx_nat, HT.sIx_nat, Nat.min_eq_left hm, Nat.min_eq_left hn]
theorem wo_none {Ψ : Option Int → Mu → Prop} (h : Ψ none μ) : wO X none ρ μ Ψ := h
theorem wo_some {Ψ : Option Int → Mu → Prop} (h : wE X e ρ μ fun d μ1 => ∃ i, d = .int i ∧ Ψ (some i) μ1) : wO X (some e) ρ μ Ψ := h
/-- what a slice is of -/
def slD (d : D) (a b : Option Int) (μ : Mu) (Φ : D → Mu → Prop) : Prop := match d with
  | .tup ds => Φ (.tup (cutD ds a b)) μ
  | .tpl ds => Φ (.tup (cutD ds a b)) μ ∧ (cutD ds a b = ds → Φ (.tpl ds) μ)
  | .lst ds => Φ (.lst (cutD ds a b)) μ
  | .scr ds => Φ (.lst (cutD ds a b)) μ
  | .str x => x.length ≤ 16777216 ∧ Φ (.str (cutS x a b)) μ
  | .ptr q => ∃ (m : Nat) (ds : List D), μ[m]? = some (q, MO.lst ds) ∧ ∀ p, Φ (.ptr p) ((p, .lst (cutD ds a b)) :: μ)
  | _ => False
theorem sd_tup {ds : List D} {a b : Option Int} (k : Φ (.tup (cutD ds a b)) μ) : slD (.tup ds) a b μ Φ := k
theorem sd_tpl {ds : List D} {a b : Option Int} (hn : cutD ds a b ≠ ds) (k : Φ (.tup (cutD ds a b)) μ) : slD (.tpl ds) a b μ Φ := ⟨k, fun h => absurd h hn⟩
theorem sd_lst {ds : List D} {a b : Option Int} (k : Φ (.lst (cutD ds a b)) μ) : slD (.lst ds) a b μ Φ := k
theorem sd_str {x : Str} {a b : Option Int} (hz : x.length ≤ 16777216) (k : Φ (.str (cutS x a b)) μ) : slD (.str x) a b μ Φ := ⟨hz, k⟩
theorem sd_ptr {q : Addr} {ds : List D} {a b : Option Int} (m : Nat) (hm : μ[m]? = some (q, MO.lst ds)) (k : ∀ p, Φ (.ptr p) ((p, .lst (cutD ds a b)) :: μ)) : slD (.ptr q) a b μ Φ := ⟨m, ds, hm, k⟩
/-- an item of a written list of ints -/
theorem ix_lit (l : List Int) {r : Int} (h0 : 0 ≤ r) (h1 : r < l.length) (k : ∀ x, x ∈ l → Φ (.int x) μ) : wIx X (.lst (l.map D.int)) (.int r) μ Φ := by
  have h2 : r.toNat < l.length := by omega
  exact ix_lstD r.toNat (by omega) (by rw [List.getElem?_map, List.getElem?_eq_getElem h2]; rfl) (k _ (List.getElem_mem h2))
theorem ix_litT (l : List Int) {r : Int} (h0 : 0 ≤ r) (h1 : r < l.length) (k : ∀ x, x ∈ l → Φ (.int x) μ) : wIx X (.tup (l.map D.int)) (.int r) μ Φ := by
  have h2 : r.toNat < l.length := by omega
  exact ix_tupD r.toNat (by omega) (by rw [List.getElem?_map, List.getElem?_eq_getElem h2]; rfl) (k _ (List.getElem_mem h2))
theorem cut_whole {K : PySem.W.Frag} {F : Hp} {v : List V} {d : List D} (r : Reps K F v d) {a b : Option Int} (h : HT.sIx v.length 0 a = 0 ∧ HT.sIx v.length v.length b = v.length) : cutD d a b = d := by
  unfold cutD
  rw [← r.length, h.1, h.2, List.drop_zero, Nat.sub_zero, r.length, List.take_of_length_le (Nat.le_refl _)]
theorem w_sl (h : wE X e ρ μ fun d μ1 => wO X lo ρ μ1 fun a μ2 => wO X hi ρ μ2 fun b μ3 => slD d a b μ3 Φ) : wE X (.Subscript e (.Slice lo hi none p2) pos) ρ μ Φ := fun F σ H hs sl Q kt =>
  se_of (pe_slice (sl_tupA.or (sl_list.or sl_str)) pe_s po_s po_s) (h F σ H hs sl _ fun v F1 H1 d μ1 z1 e1 hs1 r1 => wO_go z1 hs1 (sl.mono e1) fun a F2 H2 μ2 z2 e2 hs2 => wO_go z2 hs2 (sl.mono (e1.trans e2)) fun b F3 H3 μ3 z3 e3 hs3 => by
    have r3 := r1.mono (e2.trans e3)
    have kt3 := kt.mono (e1.trans (e2.trans e3))
    cases r3 with
    | tup g r => exact .inl ⟨_, _, rfl, (Evl.st_of (hs3.ex _ _ g)), fun hw => by rw [slD, cut_whole r hw] at z3; exact kt3.now z3 hs3 (.tup g r), fun _ q hq => by
        obtain ⟨g1, g2⟩ := hs3.laid (u := .tup (cutV _ a b)) hq
        exact kt3 _ _ _ _ _ z3 g2 g1 (.tup upd_same ((cut_reps r a b).mono g2))⟩
    | tpl g hc hd r => exact .inl ⟨_, _, rfl, .inl (.inr ⟨_, hs3.ex _ _ g⟩), fun hw => kt3.now (z3.2 (cut_whole r hw)) hs3 (.tpl g hc hd r), fun _ q hq => by
        obtain ⟨g1, g2⟩ := hs3.laid (u := .tup (cutV _ a b)) hq
        exact kt3 _ _ _ _ _ z3.1 g2 g1 (.tup upd_same ((cut_reps r a b).mono g2))⟩
    | lst g r => exact .inr (.inl ⟨_, _, rfl, Evl.sq_of (hs3.ex _ _ g), fun q hq => by
        obtain ⟨g1, g2⟩ := hs3.laid (u := .lst (cutV _ a b)) hq
        exact kt3 _ _ _ _ _ z3 g2 g1 (.lst upd_same ((cut_reps r a b).mono g2))⟩)
    | scr g r => exact .inr (.inl ⟨_, _, rfl, Evl.ex_l hs3.ex g, fun q hq => by
        obtain ⟨g1, g2⟩ := hs3.laid (u := .lst (cutV _ a b)) hq
        exact kt3 _ _ _ _ _ z3 g2 g1 (.lst upd_same ((cut_reps r a b).mono g2))⟩)
    | str x => exact .inr (.inr ⟨x, rfl, z3.1, kt3.now z3.2 hs3 (.str _)⟩)
    | ptr q =>
      obtain ⟨m, ds, hm, z⟩ := z3
      obtain ⟨xs, g, r⟩ := hs3.lst hm
      exact .inr (.inl ⟨_, xs, rfl, Evl.sq_of g, fun q hq => kt3 _ _ _ _ _ (z q) (Ex.refl _) (hs3.cell hq (.lst (cut_reps r a b))) (.ptr q)⟩)
    | _ => exact False.elim z3)
/-- xs[i] = v -/
theorem w_lset (h : wE X e ρ μ fun d μ0 => wE X o ρ μ0 fun d1 μ1 => wE X i ρ μ1 fun d2 μ2 => ∃ (q : Addr) (m : Nat) (ds : List D) (n : Nat), d1 = .ptr q ∧ d2 = .int n ∧ μ2[m]? = some (q, MO.lst ds) ∧ n < ds.length ∧ E.nx ρ (μ2.set m (q, .lst (ds.set n d))))
    (hs : swapsWithSole [.Subscript o i p] e pos.line X.env = pure false := by rfl) (hw : swappedStores [.Subscript o i p] e X.env = pure none := by rfl)
    (ha : ∀ v, assign (.Subscript o i p) X.env v = (do let ov ← holding [v] (eval o X.env); let iv ← holding [v, ov] (eval i X.env); standAt p; holding [v, ov, iv] (setItem ov iv v); release [v, ov, iv] []) := by intro _; rfl)
    (h1 : (assignEach [.Subscript o i p] X.env).map (·.2) = [assign (.Subscript o i p) X.env] := by rfl) : wS X (.Assign [.Subscript o i p] e pos) ρ μ E := fun F σ H hh sl D kt =>
  ss_of (ps_asg pe_s (pg_sub pe_s pe_s set_list ha) hs hw h1) (h F σ H hh sl _ fun v F0 H0 d μ0 z0 e0 hs0 r0 => binW (R := fun x y H2 => rSetL x y v H2 fun H3 => D.nx σ H3) z0 hs0 (sl.mono e0) fun x y F2 H2 d1 d2 μ2 ⟨q, m, ds, n, g1, g2, hm, hn, z⟩ e2 hs2 r1 r2 => by
    subst g1
    subst g2
    cases r1
    cases r2
    obtain ⟨xs, g, rx⟩ := hs2.lst hm
    have hn' : n < xs.length := by rw [rx.length]; exact hn
    refine ⟨q, xs, n, n, rfl, rfl, g, ?_, kt.nx F2 _ σ ρ _ z (e0.trans e2) (hs2.write hm (.lst (Reps.set (r0.mono e2) n rx))) (sl.mono (e0.trans e2))⟩
    unfold ixN
    rw [if_pos (by omega), if_pos (by omega), Int.toNat_natCast])
/-- sorted(xs) of ints -/
theorem c_sortedI {ns : List Int} {d : D} (hd : d = .lst (ns.map D.int) ∨ d = .scr (ns.map D.int) ∨ ∃ (m : Nat) (q : Addr), d = .ptr q ∧ μ[m]? = some (q, MO.lst (ns.map D.int))) (k : ∀ ns' : List Int, ns'.Perm ns → ns'.Pairwise (· ≤ ·) → Φ (.lst (ns'.map D.int)) μ) : wCl X (.builtin "sorted") [d] μ Φ :=
  wcl_of cr_sortedI fun F H xs hs r1 Q kt => by
  cases r1 with
  | cons r rr =>
  cases rr
  have fin : ∀ a, SqL X.K H a (ns.map V.int) → rSortedI X.K [.ref a] H Q := fun a g => ⟨a, ns, rfl, g, fun ns' q h1 h2 hq => by
    obtain ⟨g1, g2⟩ := hs.laid (u := .lst (ns'.map V.int)) hq
    exact kt _ _ _ _ _ (k ns' h1 h2) g2 g1 (.lst upd_same (reps_map (fun n => .int n) ns'))⟩
  rcases hd with hd | hd | ⟨m, q, hd, hm⟩
  · subst hd
    cases r with
    | lst g r => exact fin _ (by rw [← reps_ints r]; exact Evl.sq_of (hs.ex _ _ g))
  · subst hd
    cases r with
    | scr g r => exact fin _ (by rw [← reps_ints r]; exact Evl.ex_l hs.ex g)
  · subst hd
    cases r
    obtain ⟨xs, g, r⟩ := hs.lst hm
    exact fin _ (by rw [← reps_ints r]; exact Evl.sq_of g)
end
end Oc

/-! Own layer: small data (repr fits), tuple times a number. -/
namespace Oc
open PySem PySem.Spec L2
open Evl (Ex)
/-! ### small data -/
structure Tm (y : PyData) (b d : Nat) : Prop where
  nd : y.hasDict = false
  sh : y.showable = true
  lv : y.leavesShort 13 = true
  bk : y.bulk ≤ b
  dp : y.depth ≤ d
structure Tms (ys : List PyData) (b d : Nat) : Prop where
  nd : PyData.hasDictAll ys = false
  sh : PyData.showableAll ys = true
  lv : PyData.leavesShortAll 13 ys = true
  bk : PyData.bulkAll ys ≤ b
  dp : PyData.depthAll ys ≤ d
theorem Tm.mono {y : PyData} {b d b' d' : Nat} (h : Tm y b d) (hb : b ≤ b') (hd : d ≤ d') : Tm y b' d' := ⟨h.nd, h.sh, h.lv, Nat.le_trans h.bk hb, Nat.le_trans h.dp hd⟩
theorem Tms.mono {y : List PyData} {b d b' d' : Nat} (h : Tms y b d) (hb : b ≤ b') (hd : d ≤ d') : Tms y b' d' := ⟨h.nd, h.sh, h.lv, Nat.le_trans h.bk hb, Nat.le_trans h.dp hd⟩
theorem Tm.non : Tm .none 0 0 := ⟨rfl, rfl, rfl, Nat.le_refl _, Nat.le_refl _⟩
theorem Tm.bl (b : Bool) : Tm (.bool b) 0 0 := ⟨rfl, rfl, rfl, Nat.le_refl _, Nat.le_refl _⟩
theorem log_small {i : Int} (h : -999999999999 ≤ i ∧ i ≤ 999999999999) : i.natAbs.log2 < 1920 := by
  by_cases h0 : i.natAbs = 0
  · rw [h0]; decide
  · exact Nat.lt_of_lt_of_le ((Nat.log2_lt h0).mpr (show i.natAbs < 2 ^ 40 by omega)) (by decide)
theorem Tm.int {i : Int} (h : -999999999999 ≤ i ∧ i ≤ 999999999999) : Tm (.int i) 0 0 :=
  ⟨rfl, by simp only [PyData.showable, decide_eq_true_eq]; exact log_small h, by simp only [PyData.leavesShort, decide_eq_true_eq]; exact PySem.PyData.shown_int_le2 h.1 h.2, Nat.le_refl _, Nat.le_refl _⟩
theorem Tm.str {x : Str} (n : Nat) (h : x.cps.size ≤ n) (hc : ∀ c ∈ x.cps.toList, c < 16 ^ 8) : Tm (.str x) n 0 :=
  ⟨rfl, rfl, by simp only [PyData.leavesShort, List.all_eq_true, decide_eq_true_eq]; exact hc, by simp only [PyData.bulk]; exact h, Nat.le_refl _⟩
theorem Tms.nil : Tms [] 0 0 := ⟨rfl, rfl, rfl, Nat.le_refl _, Nat.le_refl _⟩
theorem Tms.cons {y : PyData} {ys : List PyData} {b c d e : Nat} (h : Tm y b d) (t : Tms ys c e) : Tms (y :: ys) (b + 1 + c) (max d e) :=
  ⟨by simp only [PyData.hasDictAll, h.nd, t.nd, Bool.or_self], by simp only [PyData.showableAll, h.sh, t.sh, Bool.and_self], by simp only [PyData.leavesShortAll, h.lv, t.lv, Bool.and_self],
    by simp only [PyData.bulkAll]; have := h.bk; have := t.bk; omega, by simp only [PyData.depthAll]; have := h.dp; have := t.dp; omega⟩
theorem Tms.all {b d : Nat} : ∀ {ys : List PyData}, (∀ y ∈ ys, Tm y b d) → Tms ys ((b + 1) * ys.length) d
  | [], _ => Tms.nil.mono (Nat.le_refl _) (Nat.zero_le _)
  | y :: ys, h => by
    refine (Tms.cons (h y List.mem_cons_self) (Tms.all fun z hz => h z (List.mem_cons_of_mem _ hz))).mono ?_ (by omega)
    rw [List.length_cons, Nat.mul_succ]
    omega
theorem Tm.tup {ys : List PyData} {b d : Nat} (h : Tms ys b d) : Tm (.tuple ys) b (d + 1) :=
  ⟨by simp only [PyData.hasDict]; exact h.nd, by simp only [PyData.showable]; exact h.sh, by simp only [PyData.leavesShort]; exact h.lv, by simp only [PyData.bulk]; exact h.bk, by simp only [PyData.depth]; have := h.dp; omega⟩
theorem Tm.lst {ys : List PyData} {b d : Nat} (h : Tms ys b d) : Tm (.list ys) b (d + 1) :=
  ⟨by simp only [PyData.hasDict]; exact h.nd, by simp only [PyData.showable]; exact h.sh, by simp only [PyData.leavesShort]; exact h.lv, by simp only [PyData.bulk]; exact h.bk, by simp only [PyData.depth]; have := h.dp; omega⟩
theorem Shws.map {α : Type} {μ : Mu} {f : α → D} {g : α → PyData} (h : ∀ a, Shw μ (f a) (g a)) : ∀ l : List α, Shws μ (l.map f) (l.map g)
  | [] => .nil
  | a :: l => .cons (h a) (Shws.map h l)
theorem Tms.map {α : Type} {g : α → PyData} {b d : Nat} {l : List α} (h : ∀ a ∈ l, Tm (g a) b d) : Tms (l.map g) ((b + 1) * l.length) d := by
  have := Tms.all (ys := l.map g) (b := b) (d := d) fun y hy => by
    obtain ⟨a, ha, rfl⟩ := List.mem_map.mp hy
    exact h a ha
  rwa [List.length_map] at this
section
variable {X : Cy} {μ : Mu} {Φ : D → Mu → Prop}
/-- repr of small data -/
theorem c_reprT {d : D} (y : PyData) {k0 b e : Nat} (hr : Rm k0 X.A) (hd : Shw μ d y) (t : Tm y b e) (k : Φ (.str y.shown) μ) (hb : b ≤ 1048576 := by decide) (he : e ≤ 60 := by decide) : wCl X (.builtin "repr") [d] μ Φ :=
  c_repr y hr hd t.nd t.sh (PyData.shown_fits_bulk (B := 13) (by decide) (by decide) t.lv (Nat.le_trans t.bk (by omega))) (Nat.le_trans t.dp he) k
end
/-! ### t * n -/
theorem tuple_mul_1 (l : Addr) (items : Array Value) (n : Nat) (dd : Option Addr) (sl : Array (Option Value)) (u : Tok) :
    Meets (Builtin.«tuple.__mul__» ⟨[.ref l, .int 1 u], []⟩) (fun _ R s => s.heap.get? l = some { cls := .type "tuple", dict := dd, data := .seq items n, slots := sl } ∧ R (.ok (.ret (Value.ref l))) s) :=
  .of_wp fun prog w A R s h => by
    obtain ⟨hp, g, d, tk, os⟩ := s
    obtain ⟨hl, h⟩ := h
    have f1 := AutoSeq1.idx_int
    have c1 : (items.isEmpty || (1 : Int) == 1) = true := by simp
    wp_walk using wpAny_loadPart' hl
    all_goals exact ⟨_, rfl, h⟩
theorem tuple_mul_0 (l : Addr) (items : Array Value) (n : Nat) (dd : Option Addr) (sl : Array (Option Value)) (u : Tok) (hi : items.isEmpty = false) :
    Meets (Builtin.«tuple.__mul__» ⟨[.ref l, .int 0 u], []⟩) (fun _ R s => s.heap.get? l = some { cls := .type "tuple", dict := dd, data := .seq items n, slots := sl } ∧
      R (.ok (.ret (Value.ref s.heap.objs.size))) { s with heap := s.heap.push { cls := Value.type "tuple", data := Data.seq #[] }, toks := s.toks }) :=
  .of_wp fun prog w A R s h => by
    obtain ⟨hp, g, d, tk, os⟩ := s
    obtain ⟨hl, h⟩ := h
    have f1 := AutoSeq1.idx_int
    have c1 : (items.isEmpty || (0 : Int) == 1) = false := by rw [hi]; decide
    wp_walk using wpAny_loadPart' hl
    repeat (first
      | (refine wpAny_ite_false (decide_eq_false (by rw [c1]; exact Bool.false_ne_true)) ?_; wp_walk using wpAny_loadPart' hl)
      | (refine wpAny_ite_true (decide_eq_true (by simp)) ?_; wp_walk using wpAny_loadPart' hl))
    all_goals exact ⟨_, rfl, h⟩
/-- t * 0, t * 1 -/
def rRep01 (K : PySem.W.Frag) : R2 := fun x y H Q => ∃ l xs, x = .ref l ∧ SqT K H l xs ∧ xs ≠ [] ∧ ((y = .int 1 ∧ Q (.ref l) H) ∨ (y = .int 0 ∧ ∀ p, H p = none → Q (.ref p) (upd H p (.tup []))))
theorem op_rep01 {X : Cy} : OpR X (binaryOp .Mult) (rRep01 X.K) := by
  intro pins s σ H x y v u Q I rx ry h
  obtain ⟨l, xs, rfl, hT, hne, h⟩ := h
  cases rx
  obtain ⟨its, r, ⟨⟨cls, dd, data, sl⟩, ho, hc, n, hd⟩, hs⟩ := I.tuple hT
  simp only at hc hd
  subst hc hd
  have hn : its ≠ [] := fun e => hne (List.eq_nil_of_length_eq_zero (by rw [r.length, e]; rfl))
  have hi : its.toArray.isEmpty = false := by
    cases its with
    | nil => exact absurd rfl hn
    | cons a b => rfl
  rcases h with ⟨rfl, q⟩ | ⟨rfl, q⟩
  · obtain ⟨t, rfl⟩ := ry
    exact wpAny_binaryOp_repeat_ref (T := "tuple") (U := "int") (by decide) ⟨_, ho, rfl⟩ (fun s' => PySem.typeIs_int s' 1 t) noFill_tuple_mul PySem.F.fills_int_mul PySem.F.slot_int_rmul repeat_tuple PySem.F.slot_int_index.lookup
      (PySem.call_meets PySem.F.slot_int_rmul (PySem.typeIs_int s 1 t) PySem.F.entry_int_rmul (PySem.F.args_int_rmul_2 _ _) (int_rmul_tuple 1 t l its.toArray n dd sl)
        ⟨ho, rfl, ⟨_, ho, rfl⟩, PySem.call_meets PySem.F.slot_tuple_mul ⟨_, ho, rfl⟩ PySem.F.entry_tuple_mul (PySem.F.args_tuple_mul_2 _ _) (tuple_mul_1 l its.toArray n dd sl t) ⟨ho, ⟨.ref l, H, I, rfl, q⟩⟩⟩)
  · obtain ⟨t, rfl⟩ := ry
    refine wpAny_binaryOp_repeat_ref (T := "tuple") (U := "int") (by decide) ⟨_, ho, rfl⟩ (fun s' => PySem.typeIs_int s' 0 t) noFill_tuple_mul PySem.F.fills_int_mul PySem.F.slot_int_rmul repeat_tuple PySem.F.slot_int_index.lookup
      (PySem.call_meets PySem.F.slot_int_rmul (PySem.typeIs_int s 0 t) PySem.F.entry_int_rmul (PySem.F.args_int_rmul_2 _ _) (int_rmul_tuple 0 t l its.toArray n dd sl)
        ⟨ho, rfl, ⟨_, ho, rfl⟩, PySem.call_meets PySem.F.slot_tuple_mul ⟨_, ho, rfl⟩ PySem.F.entry_tuple_mul (PySem.F.args_tuple_mul_2 _ _) (tuple_mul_0 l its.toArray n dd sl t hi) ⟨ho, ?_⟩⟩)
    exact ⟨.ref s.heap.objs.size, _, I.laid (t' := s.toks) (o := .tup []) (fun b ob q => Heap.get?_push_of_some _ q) (Nat.le_refl _) ⟨Nat.zero_le _, [], .nil, PyProof.Rows.IsTup.new _ _⟩, rfl, q _ (I.hok.fresh (Nat.le_refl _))⟩
section
variable {X : Cy} {μ : Mu} {Φ : D → Mu → Prop}
theorem Reps.rep {K : PySem.W.Frag} {F : Hp} {v : List V} {d : List D} (r : Reps K F v d) : ∀ n : Nat, Reps K F (List.replicate n v).flatten (List.replicate n d).flatten
  | 0 => .nil
  | n + 1 => by
    rw [List.replicate_succ, List.replicate_succ, List.flatten_cons, List.flatten_cons]
    exact r.append (Reps.rep r n)
theorem o_repT {ds : List D} {k : Int} (hk : 0 ≤ k ∧ k ≤ 1000) (hne : ds ≠ []) (hz : ds.length ≤ 1000) (q : Φ (.tup (List.replicate k.toNat ds).flatten) μ) : wOp X (binaryOp .Mult) (.tup ds) (.int k) μ Φ := by
  by_cases h2 : 2 ≤ k
  · refine wop_of op_repT fun F H x y hs r1 r2 Q kt => ?_
    cases r2
    cases r1 with
    | tup g r =>
      refine ⟨_, k, _, rfl, rfl, (Evl.st_of (hs.ex _ _ g)), fun e => hne (List.eq_nil_of_length_eq_zero (by rw [← r.length, e]; rfl)), h2, hk.2, by rw [r.length]; exact hz, fun p hp => ?_⟩
      obtain ⟨g1, g2⟩ := hs.laid (u := .tup (List.replicate k.toNat _).flatten) hp
      exact kt _ _ _ _ _ q g2 g1 (.tup upd_same ((Reps.rep r _).mono g2))
  · refine wop_of op_rep01 fun F H x y hs r1 r2 Q kt => ?_
    cases r2
    cases r1 with
    | tup g r =>
      refine ⟨_, _, rfl, (Evl.st_of (hs.ex _ _ g)), fun e => hne (List.eq_nil_of_length_eq_zero (by rw [← r.length, e]; rfl)), ?_⟩
      by_cases h1 : k = 1
      · subst h1
        refine .inl ⟨rfl, kt.now (by simpa using q) hs (.tup g r)⟩
      · obtain rfl : k = 0 := by omega
        refine .inr ⟨rfl, fun p hp => ?_⟩
        obtain ⟨g1, g2⟩ := hs.laid (u := .tup []) hp
        exact kt _ _ _ _ _ q g2 g1 (.tup upd_same .nil)
end
end Oc

/-! Own layer: `is` of truths; == of data that can be laid. -/
namespace Oc
open PySem PySem.Spec L2
open Evl (Ex)
structure Ly (d : D) (n : Nat) : Prop where
  st : D.still d = true
  lay : d.py.canLay0 = true
  dp : d.py.depth ≤ n
structure Lys (ds : List D) (n : Nat) : Prop where
  st : D.stills ds = true
  lay : PyData.canLayAll0 (D.pys ds) = true
  dp : PyData.depthAll (D.pys ds) ≤ n
theorem Ly.mono {d : D} {n m : Nat} (h : Ly d n) (hn : n ≤ m) : Ly d m := ⟨h.st, h.lay, Nat.le_trans h.dp hn⟩
theorem Lys.mono {d : List D} {n m : Nat} (h : Lys d n) (hn : n ≤ m) : Lys d m := ⟨h.st, h.lay, Nat.le_trans h.dp hn⟩
theorem Ly.non : Ly .non 0 := ⟨by simp only [D.still], by simp only [D.py, PyData.canLay0], by simp only [D.py, PyData.depth]; exact Nat.le_refl _⟩
theorem Ly.int (i : Int) : Ly (.int i) 0 := ⟨by simp only [D.still], by simp only [D.py, PyData.canLay0], by simp only [D.py, PyData.depth]; exact Nat.le_refl _⟩
theorem Ly.bl (i : Bool) : Ly (.bl i) 0 := ⟨by simp only [D.still], by simp only [D.py, PyData.canLay0], by simp only [D.py, PyData.depth]; exact Nat.le_refl _⟩
theorem Lys.nil : Lys [] 0 := ⟨by simp only [D.stills], by simp only [D.pys, PyData.canLayAll0], by simp only [D.pys, PyData.depthAll]; exact Nat.le_refl _⟩
theorem Lys.cons {d : D} {ds : List D} {n m : Nat} (h : Ly d n) (t : Lys ds m) : Lys (d :: ds) (max n m) := ⟨by simp only [D.stills, h.st, t.st, Bool.and_self], by simp only [D.pys, PyData.canLayAll0, h.lay, t.lay, Bool.and_self], by
  simp only [D.pys, PyData.depthAll]; have := h.dp; have := t.dp; omega⟩
theorem Lys.all {n : Nat} : ∀ {ds : List D}, (∀ d ∈ ds, Ly d n) → Lys ds n
  | [], _ => Lys.nil.mono (Nat.zero_le _)
  | d :: ds, h => (Lys.cons (h d List.mem_cons_self) (Lys.all fun e he => h e (List.mem_cons_of_mem _ he))).mono (by omega)
theorem Ly.tup {ds : List D} {n : Nat} (h : Lys ds n) : Ly (.tup ds) (n + 1) := ⟨by simp only [D.still]; exact h.st, by simp only [D.py, PyData.canLay0]; exact h.lay, by simp only [D.py, PyData.depth]; have := h.dp; omega⟩
theorem Ly.lst {ds : List D} {n : Nat} (h : Lys ds n) : Ly (.lst ds) (n + 1) := ⟨by simp only [D.still]; exact h.st, by simp only [D.py, PyData.canLay0]; exact h.lay, by simp only [D.py, PyData.depth]; have := h.dp; omega⟩
theorem Lys.map {α : Type} {f : α → D} {n : Nat} {l : List α} (h : ∀ a ∈ l, Ly (f a) n) : Lys (l.map f) n := Lys.all fun d hd => by
  obtain ⟨a, ha, rfl⟩ := List.mem_map.mp hd
  exact h a ha
theorem Ly.shaped {d : D} {n : Nat} (h : Ly d n) (hn : n ≤ 64) : SeqAt.shaped d.py = true := by
  unfold SeqAt.shaped
  rw [h.lay, Bool.true_and]
  exact decide_eq_true (Nat.le_trans h.dp hn)
section
variable {X : Cy} {μ : Mu} {Φ : D → Mu → Prop} {d1 d2 : D} {n m : Nat}
theorem o_eqY (hu : X.c.A.units + 64 < cLine) (h1 : Ly d1 n) (h2 : Ly d2 m) (k : Φ (.bl (PyData.eqv d1.py d2.py)) μ) (hn : n ≤ 64 := by decide) (hm : m ≤ 64 := by decide) : wOp X (compareOp .Eq) d1 d2 μ Φ := o_eqD hu h1.st h2.st (h1.shaped hn) (h2.shaped hm) k
theorem o_neY (hu : X.c.A.units + 64 < cLine) (h1 : Ly d1 n) (h2 : Ly d2 m) (k : Φ (.bl (!PyData.eqv d1.py d2.py)) μ) (hn : n ≤ 64 := by decide) (hm : m ≤ 64 := by decide) : wOp X (compareOp .NotEq) d1 d2 μ Φ := o_neD hu h1.st h2.st (h1.shaped hn) (h2.shaped hm) k
theorem eqv_same {d : D} {n : Nat} (h : Ly d n) : PyData.eqv d.py d.py = true := SeqAt.eqv_refl _ h.lay
/-- the same data on both sides -/
theorem o_eqS (hu : X.c.A.units + 64 < cLine) (h1 : Ly d1 n) (k : Φ (.bl true) μ) (hn : n ≤ 64 := by decide) : wOp X (compareOp .Eq) d1 d1 μ Φ := o_eqY hu h1 h1 (by rw [eqv_same h1]; exact k) hn hn
theorem o_neS (hu : X.c.A.units + 64 < cLine) (h1 : Ly d1 n) (k : Φ (.bl false) μ) (hn : n ≤ 64 := by decide) : wOp X (compareOp .NotEq) d1 d1 μ Φ := o_neY hu h1 h1 (by rw [eqv_same h1]; exact k) hn hn
theorem o_isB {a b : Bool} (k : Φ (.bl (decide (a = b))) μ) : wOp X (compareOp .Is) (.bl a) (.bl b) μ Φ := wop_of op_is_bl fun F H x y hs r1 r2 Q kt => by
  cases r1
  cases r2
  exact ⟨a, b, rfl, rfl, kt.now k hs (.bl _)⟩
theorem o_notB {a b : Bool} (k : Φ (.bl (!decide (a = b))) μ) : wOp X (compareOp .IsNot) (.bl a) (.bl b) μ Φ := wop_of op_isnot_bl fun F H x y hs r1 r2 Q kt => by
  cases r1
  cases r2
  exact ⟨a, b, rfl, rfl, kt.now k hs (.bl _)⟩
end
section
variable {X : Cy} {k o : Expr} {ρ : Rho} {μ : Mu} {ΦT : Bool → Mu → Prop} {pos : Pos}
theorem wt_din (hu : X.c.A.units + 1 < cLine) (h : wE X k ρ μ fun d2 μ1 => wE X o ρ μ1 fun d1 μ2 => ∃ (q : Addr) (m : Nat) (ds : List (Key × D)) (kk : Key), d1 = .ptr q ∧ d2 = kD kk ∧ μ2[m]? = some (q, MO.dk ds) ∧ ΦT (valD ds kk).isSome μ2) (hm : behindInMarks .In o = false := by rfl) : wT X (.Compare k [.In] [o] pos) ρ μ ΦT := fun F σ H hh sl Q kt =>
  st_of (pt_cmp (pc_din hu pe_s pe_s) hm) (binW h hh sl fun y x F2 H2 d2 d1 μ2 ⟨q, m, ds, kk, h1, h2, hm, z⟩ e hs2 r2 r1 => by
    subst h1
    subst h2
    cases r1
    cases rep_kD r2
    obtain ⟨kvs, g, rk⟩ := hs2.dk hm
    refine ⟨q, _, rfl, DGet.k g, ?_⟩
    rw [← (rk.val kk).2]
    exact ⟨_, rfl, kt _ _ _ _ z e hs2⟩)
theorem wt_dnin (hu : X.c.A.units + 1 < cLine) (h : wE X k ρ μ fun d2 μ1 => wE X o ρ μ1 fun d1 μ2 => ∃ (q : Addr) (m : Nat) (ds : List (Key × D)) (kk : Key), d1 = .ptr q ∧ d2 = kD kk ∧ μ2[m]? = some (q, MO.dk ds) ∧ ΦT (!(valD ds kk).isSome) μ2) (hm : behindInMarks .NotIn o = false := by rfl) : wT X (.Compare k [.NotIn] [o] pos) ρ μ ΦT := fun F σ H hh sl Q kt =>
  st_of (pt_cmp (pc_dnotin hu pe_s pe_s) hm) (binW h hh sl fun y x F2 H2 d2 d1 μ2 ⟨q, m, ds, kk, h1, h2, hm, z⟩ e hs2 r2 r1 => by
    subst h1
    subst h2
    cases r1
    cases rep_kD r2
    obtain ⟨kvs, g, rk⟩ := hs2.dk hm
    refine ⟨q, _, rfl, DGet.k g, ?_⟩
    rw [← (rk.val kk).2]
    exact ⟨_, rfl, kt _ _ _ _ z e hs2⟩)
end
theorem fls_map {α : Type} {f : α → D} {g : α → V} (h : ∀ a, (f a).fl = some (g a)) : ∀ l : List α, D.fls (l.map f) = some (l.map g)
  | [] => rfl
  | a :: l => by
    rw [List.map_cons, List.map_cons, D.fls, h a, fls_map h l]
theorem inV_nat (g : Nat) : ∀ l : List Nat, inV (.int (g : Int)) (l.map fun a : Nat => V.int a) = l.any fun a => a == g
  | [] => rfl
  | a :: l => by
    have ih := inV_nat g l
    unfold inV at ih ⊢
    rw [List.map_cons, List.any_cons, List.any_cons, ih]
    refine congrArg (· || _) ?_
    show ((a : Int) == (g : Int)) = (a == g)
    rw [Bool.eq_iff_iff, beq_iff_eq, beq_iff_eq]
    omega
section
variable {X : Cy} {μ : Mu} {Φ : D → Mu → Prop} {d : D}
theorem o_inP {w : V} {q : Addr} {ds : List D} {ws : List V} (m : Nat) (hm : μ[m]? = some (q, MO.lst ds)) (h1 : d.fl = some w) (h2 : D.fls ds = some ws) (k : Φ (.bl (inV w ws)) μ) : wOp X (compareOp .In) d (.ptr q) μ Φ := wop_of op_in_seq fun F H u v hs r1 r2 Q kt => by
  cases rep_fl r1 h1
  cases r2
  obtain ⟨xs, g, rx⟩ := hs.lst hm
  cases rep_fls rx h2
  exact ⟨_, _, rfl, .inl (Evl.sq_of g), fl_flat h1, fls_flat h2, kt.now k hs (.bl _)⟩
theorem o_ninP {w : V} {q : Addr} {ds : List D} {ws : List V} (m : Nat) (hm : μ[m]? = some (q, MO.lst ds)) (h1 : d.fl = some w) (h2 : D.fls ds = some ws) (k : Φ (.bl (!inV w ws)) μ) : wOp X (compareOp .NotIn) d (.ptr q) μ Φ := wop_of op_notIn_seq fun F H u v hs r1 r2 Q kt => by
  cases rep_fl r1 h1
  cases r2
  obtain ⟨xs, g, rx⟩ := hs.lst hm
  cases rep_fls rx h2
  exact ⟨_, _, rfl, .inl (Evl.sq_of g), fl_flat h1, fls_flat h2, kt.now k hs (.bl _)⟩
end
end Oc

/-! Own layer: enumerate of a tuple, of a list; reversed. -/
namespace Oc
open PySem PySem.Spec L2
open Evl (Ex)
open PySem.AutoSeq1 (wpAny_loadPart')
theorem enum_newT (l : Addr) (items : Array Value) (n : Nat) (dct : Option Addr) (sl : Array (Option Value)) :
    Meets (Builtin.«enumerate.__new__» ⟨[.type "enumerate", .ref l], []⟩) (fun _ R s => s.heap.get? l = some { cls := .type "tuple", dict := dct, data := .seq items n, slots := sl } ∧
      R (.ok (.ret (.ref (s.heap.push { cls := .type "tuple_iterator", data := .fields #[.ref l, .int 0 0] }).objs.size)))
        { s with heap := (s.heap.push { cls := .type "tuple_iterator", data := .fields #[.ref l, .int 0 0] }).push { cls := .type "enumerate", data := .fields #[.none, .bool false, .ref s.heap.objs.size, rawInt 0, .none, .none] } }) :=
  .of_wp fun prog w A R s h => by
    obtain ⟨hp, g, d, tk, os⟩ := s
    obtain ⟨hl, h⟩ := h
    have hsub := sub_enumerate
    have hT : Heap.IsTuple (Shared.heap ⟨hp, g, d, tk, os⟩) l items := ⟨_, hl, rfl, n, rfl⟩
    wp_walk using wpAny_loadPart' hl
    refine wpAny_stack_any fun st => wpAny_pure ?_
    split
    · rename_i c _ _ _ _ _
      cases (c == Value.type "enumerate")
      · wp_walk using wpAny_loadPart' hl, wpAny_pyIter_tuple hT
        exact ⟨_, rfl, h⟩
      · wp_walk using wpAny_loadPart' hl, wpAny_pyIter_tuple hT
        exact ⟨_, rfl, h⟩
    · wp_walk using wpAny_loadPart' hl, wpAny_pyIter_tuple hT
      exact ⟨_, rfl, h⟩
section
variable {prog : Program} {w : World} {A : Around} {E : Value → Shared → Prop} {s : Shared}
theorem call_enumT {l : Addr} {items : Array Value} {Q : Value → Shared → Prop} (hT : s.heap.IsTuple l items)
    (h : ∀ h', IsEnum h' (s.heap.objs.size + 1) s.heap.objs.size 0 .none → h'.IsTupleIter s.heap.objs.size l 0 → (∀ b o, s.heap.get? b = some o → h'.get? b = some o) → Q (.ref (s.heap.objs.size + 1)) { s with heap := h' }) :
    wpAny (model prog w) A (call (.type "enumerate") [.ref l]) Q E s := by
  obtain ⟨⟨c, dct, dt, sl⟩, hl, hc, n, hd⟩ := hT
  obtain rfl : c = .type "tuple" := hc
  obtain rfl : dt = .seq items n := hd
  refine callType_new PySem.F.called_enumerate (by decide) (PySem.F.typeCall_enumerate_1 _) (PySem.F.newCall_enumerate_1 _) (fun obj => PySem.F.args_object_init_2 obj _) PySem.F.entry_enumerate_new (enum_newT l items n dct sl) ⟨hl, ?_⟩
  have hz : (s.heap.push { cls := .type "tuple_iterator", data := .fields #[.ref l, .int 0 0] }).objs.size = s.heap.objs.size + 1 := Heap.size_push ..
  have g1 := Heap.get?_push_size (s.heap.push { cls := .type "tuple_iterator", data := .fields #[.ref l, .int 0 0] }) (o := { cls := .type "enumerate", data := .fields #[.none, .bool false, .ref s.heap.objs.size, rawInt 0, .none, .none] }) rfl
  rw [hz] at g1
  show _ ∧ _
  rw [hz]
  exact ⟨⟨_, g1, rfl⟩, h _ g1 ⟨_, Heap.get?_push_of_some _ (Heap.get?_push_size _ rfl), rfl, rfl⟩ fun b o x => Heap.get?_push_of_some _ (Heap.get?_push_of_some _ x)⟩
end
/-- the pairs of a place and an item of the tuple at a -/
def Itet (K : PySem.W.Frag) (a : Addr) : It :=
  ⟨fun i H => ∃ (xs : List V) (x : V), SqT K H a xs ∧ xs[i]? = some x, fun i H v H' => ∃ T x, v = .ref T ∧ H T = none ∧ H' = upd H T (.tup [.int (i : Nat), x]) ∧ ∀ xs, SqT K H a xs → xs[i]? = some x, fun i H => ∃ xs : List V, SqT K H a xs ∧ i = xs.length⟩
theorem turn_enumT {P : Program} {w : World} {K : PySem.W.Frag} {elts : List Expr} {kk : Nat} {tpos : Pos} (a e it : Addr) (hne : e ≠ it) (hea : e ≠ a) (hia : a ≠ it) :
    Turn P w K (.Tuple elts kk tpos) (Itet K a) [e, it] e (fun i h => (∃ old, IsEnum h e it (0 + (i : Int)) old) ∧ h.IsTupleIter it a i) where
  mem := by simp
  obj := fun i h st b hb => by
    obtain ⟨⟨old, he⟩, ⟨o, ho, hc, hd⟩⟩ := st
    rcases List.mem_cons.mp hb with z | z
    · subst z; exact ⟨_, he, fun v q => nomatch q⟩
    · rcases List.mem_cons.mp z with z | z
      · subst z; exact ⟨o, ho, fun v q => by rw [hd] at q; cases q⟩
      · cases z
  keep := fun i h h' st k => by
    obtain ⟨⟨old, he⟩, ⟨o, ho, r⟩⟩ := st
    exact ⟨⟨old, k e (by simp) _ he⟩, ⟨o, k it (by simp) o ho, r⟩⟩
  item := by
    intro Y hP hw hK hc i pins s σ H E I hf st hg
    subst hP hw hK
    obtain ⟨xs, x, hq, hx⟩ := hg
    obtain ⟨its, rv, p, hz⟩ := I.tuple hq
    obtain ⟨u, hu, ru⟩ := rv.get hx
    have G := GoesN.enumFrom (prog := Y.prog) (w := Y.w) (A := Y.A) (elts := elts) (x1 := kk) (pos := tpos) 0 (Draws.tuple (A := Y.A.in1) (I.ok.hd hc) it a hia its.toArray) e hne (by simp [hne, hea]) (by simp)
    refine G.goes i s _ E (by rw [List.size_toArray]; exact (List.getElem?_eq_some_iff.mp hu).1) ⟨st.1, st.2, p⟩ fun v h' tk hY st' hk htk => ?_
    obtain ⟨T, t', u', rfl, hT, hu', hv⟩ := hY
    obtain rfl : u = u' := by
      rw [List.getElem?_toArray, hu] at hu'
      exact Option.some.inj hu'
    have new : ObjOk Y.prog Y.w (upd H T (.tup [.int (i : Nat), x])) h' T (.tup [.int (i : Nat), x]) :=
      ⟨by show 2 ≤ sizeLine; decide, [.int (0 + (i : Int)) t', u], .cons ⟨t', by rw [Int.zero_add]⟩ (.cons ru .nil), hv⟩
    have I1 := I.turnedNew (t' := tk) (ch := [e, it]) hk hf hT new
    refine ⟨.ref T, _, I1, rfl, ⟨T, x, rfl, I.hok.fresh hT, rfl, fun ys hy => by rw [I.tuple_inj hy hq]; exact hx⟩, ⟨st'.1, st'.2.1⟩, fun b hb => ?_⟩
    have hlt : b < s.heap.objs.size := by
      obtain ⟨⟨old, he⟩, ⟨o, ho, _⟩⟩ := st
      rcases List.mem_cons.mp hb with z | z
      · subst z; exact Heap.lt_size he
      · rcases List.mem_cons.mp z with z | z
        · subst z; exact Heap.lt_size ho
        · cases z
    rw [upd_ne (Nat.ne_of_lt (Nat.lt_of_lt_of_le hlt hT))]
    exact (hf b hb).1
  done := by
    intro Y hP hw hK hc i pins s σ H E I hf st hg
    subst hP hw hK
    obtain ⟨xs, hq, rfl⟩ := hg
    obtain ⟨its, rv, p, hz⟩ := I.tuple hq
    have G := GoesN.enumFrom (prog := Y.prog) (w := Y.w) (A := Y.A) (elts := elts) (x1 := kk) (pos := tpos) 0 (Draws.tuple (A := Y.A.in1) (I.ok.hd hc) it a hia its.toArray) e hne (by simp [hne, hea]) (by simp)
    refine G.stops s _ E (by rw [List.size_toArray, ← rv.length]; exact ⟨st.1, st.2, p⟩) fun h' tk hk htk => ?_
    exact I.turnedL hk hf
  self := fun A i s Q E st h => let ⟨⟨_, he⟩, _⟩ := st; wpAny_pyIter_enum he h
section
variable {X : Cy} {e : Expr} {ρ : Rho} {μ : Mu} {pos p : Pos}
def iEnumT (K : PySem.W.Frag) (ta : TA) : TI := fun σ H R => ta σ H fun vs H1 => ∃ a xs, vs = [.ref a] ∧ SqT K H1 a xs ∧ R (Itet K a) H1
theorem pi_enumT {ta : TA} {tpos : Pos} {elts : List Expr} {kk : Nat} (hg : Gl X "enumerate") (hm : X.mg "enumerate" = none) (ha : PA X [e] ta) (hs : starEach [e] X.env = [(false, eval e X.env)] := by rfl) : PI X (.Tuple elts kk tpos) (.Call (.Name "enumerate" p) [e] [] pos) (iEnumT X.K ta) := by
  refine ⟨fun pins s σ H R I h => PyProof.Rows.Call_ (ld_blt I hg hm PyProof.Rows.boot_enumerate (PyProof.Rows.callWith_type1 (thn (ha.run pos pins s σ H _ I h) fun us s1 hq => ?_) hs rfl))⟩
  obtain ⟨vs, H1, I1, r1, a, xs, rfl, hT, q⟩ := hq
  cases r1 with
  | cons r rr =>
    cases rr
    cases r
    obtain ⟨its, rv, p', hz⟩ := I1.tuple hT
    have alt : a < s1.heap.objs.size := PyProof.Rows.IsTup.lt p'
    refine call_enumT p' fun h' he hit hk => wpAny_pyIter_enum he ?_
    have I2 : Inv X pins σ H1 { s1 with heap := h' } := I1.kept (t' := s1.toks) hk
    refine ⟨s1.heap.objs.size + 1, [s1.heap.objs.size + 1, s1.heap.objs.size], _, _, H1, rfl, I2, turn_enumT a (s1.heap.objs.size + 1) s1.heap.objs.size (Nat.succ_ne_self _) (Nat.ne_of_gt (Nat.lt_succ_of_lt alt)) (Nat.ne_of_lt alt), ⟨⟨.none, he⟩, hit⟩, fun b hb => ?_, q⟩
    have hle : s1.heap.objs.size ≤ b := by
      rcases List.mem_cons.mp hb with z | z
      · rw [z]; exact Nat.le_succ _
      · rcases List.mem_cons.mp z with z | z
        · rw [z]; exact Nat.le_refl _
        · cases z
    exact I1.fpOk hle (I1.hok.fresh hle)
/-- the pairs of a place and an item -/
def enumD (ds : List D) : List D := (List.range ds.length).map fun i : Nat => .tup [.int i, ds.getD i .non]
theorem enumD_len {ds : List D} : (enumD ds).length = ds.length := by unfold enumD; rw [List.length_map, List.length_range]
theorem enumD_get {ds : List D} {i : Nat} {d : D} (h : (enumD ds)[i]? = some d) : ∃ x, ds[i]? = some x ∧ d = .tup [.int i, x] := by
  unfold enumD at h
  rw [List.getElem?_map] at h
  by_cases hi : i < ds.length
  · rw [List.getElem?_range hi] at h
    cases h
    exact ⟨ds[i], List.getElem?_eq_getElem hi, by show D.tup [D.int i, ds.getD i D.non] = _; rw [List.getD_eq_getElem?_getD, List.getElem?_eq_getElem hi]; rfl⟩
  · rw [List.getElem?_eq_none (by rw [List.length_range]; omega)] at h
    cases h
theorem wi_enumT {tpos : Pos} {elts : List Expr} {kk : Nat} {ΦI : List D → Mu → Prop} (hm : X.mg "enumerate" = none) (h : wE X e ρ μ fun d μ1 => ∃ ds, d = .tup ds ∧ ΦI (enumD ds) μ1) (hg : Gl X "enumerate" := by rfl) (hs : starEach [e] X.env = [(false, eval e X.env)] := by rfl) :
    wI X (.Tuple elts kk tpos) (.Call (.Name "enumerate" p) [e] [] pos) ρ μ ΦI := fun F σ H hh sl R kt =>
  si_of (pi_enumT hg hm (pa_cons pe_s pa_nil hs) hs) (h F σ H hh sl _ fun v F1 H1 d μ1 ⟨ds, hd, q⟩ e1 hs1 r1 => by
    subst hd
    cases r1 with
    | tup g r =>
      rename_i a xs
      refine ⟨a, xs, rfl, (Evl.st_of (hs1.ex _ _ g)), kt _ _ F1 μ1 H1 q e1 hs1 fun i F' μ' H' e' hs' => ?_⟩
      have g' : SqT X.K H' a xs := Evl.ex_t hs'.ex ((Evl.st_of (e' _ _ g)))
      rw [enumD_len]
      refine ⟨fun hi => ⟨xs, xs[i]'(by rw [r.length]; exact hi), g', List.getElem?_eq_getElem _⟩, fun hi => ⟨xs, g', by rw [r.length]; exact hi⟩, fun x H2 d hy hd => ?_⟩
      obtain ⟨T, y, rfl, hT, rfl, fy⟩ := hy
      obtain ⟨x', hx', rfl⟩ := enumD_get hd
      obtain ⟨z, h1, h2⟩ := r.get hx'
      cases (fy _ g').symm.trans h1
      obtain ⟨g1, g2⟩ := hs'.laid (u := .tup [.int (i : Nat), y]) hT
      exact ⟨_, g2, g1, .tup upd_same (.cons (.int _) (.cons ((h2.mono e').mono g2) .nil))⟩)
theorem wi_enumL {tpos : Pos} {elts : List Expr} {kk : Nat} {ΦI : List D → Mu → Prop} (hm : X.mg "enumerate" = none) (h : wE X e ρ μ fun d μ1 => ∃ ds, d = .lst ds ∧ ΦI (enumD ds) μ1) (hg : Gl X "enumerate" := by rfl) (hs : starEach [e] X.env = [(false, eval e X.env)] := by rfl) :
    wI X (.Tuple elts kk tpos) (.Call (.Name "enumerate" p) [e] [] pos) ρ μ ΦI := fun F σ H hh sl R kt =>
  si_of (pi_enum hg hm (pa_cons pe_s pa_nil hs) hs) (h F σ H hh sl _ fun v F1 H1 d μ1 ⟨ds, hd, q⟩ e1 hs1 r1 => by
    subst hd
    cases r1 with
    | lst g r =>
      rename_i a xs
      refine ⟨a, xs, rfl, Evl.ex_l hs1.ex (Evl.sq_of g), kt _ _ F1 μ1 H1 q e1 hs1 fun i F' μ' H' e' hs' => ?_⟩
      have g' : SqL X.K H' a xs := Evl.ex_l hs'.ex (Evl.ex_l e' (Evl.sq_of g))
      rw [enumD_len]
      refine ⟨fun hi => ⟨xs, xs[i]'(by rw [r.length]; exact hi), g', List.getElem?_eq_getElem _⟩, fun hi => ⟨xs, g', by rw [r.length]; exact Nat.le_of_eq hi.symm⟩, fun x H2 d hy hd => ?_⟩
      obtain ⟨T, y, rfl, hT, rfl, fy⟩ := hy
      obtain ⟨x', hx', rfl⟩ := enumD_get hd
      obtain ⟨z, h1, h2⟩ := r.get hx'
      cases (fy _ g').symm.trans h1
      obtain ⟨g1, g2⟩ := hs'.laid (u := .tup [.int (i : Nat), y]) hT
      exact ⟨_, g2, g1, .tup upd_same (.cons (.int _) (.cons ((h2.mono e').mono g2) .nil))⟩)
theorem wi_revT {tg : Expr} {ΦI : List D → Mu → Prop} (hm : X.mg "reversed" = none) (h : wE X e ρ μ fun d μ1 => ∃ ds, d = .tup ds ∧ ΦI ds.reverse μ1) (hg : Gl X "reversed" := by rfl) (hs : starEach [e] X.env = (false, eval e X.env) :: starEach [] X.env := by rfl) :
    wI X tg (.Call (.Name "reversed" p) [e] [] pos) ρ μ ΦI := fun F σ H hh sl R kt =>
  si_of (RT.pi_revA hg hm pe_s hs) (h F σ H hh sl _ fun v F1 H1 d μ1 ⟨ds, hd, q⟩ e1 hs1 r1 => by
    subst hd
    cases r1 with
    | tup g r =>
      rename_i a xs
      refine ⟨a, xs, rfl, .inr ⟨(Evl.st_of (hs1.ex _ _ g)), kt _ _ F1 μ1 H1 q e1 hs1 fun i F' μ' H' e' hs' => ?_⟩⟩
      have g' : SqT X.K H' a xs := Evl.ex_t hs'.ex ((Evl.st_of (e' _ _ g)))
      have hl := r.length
      rw [List.length_reverse]
      refine ⟨fun hi => ⟨by omega, xs, xs[xs.length - 1 - i]'(by omega), g', List.getElem?_eq_getElem _⟩, fun hi => by show xs.length ≤ i; omega, fun x H2 d hy hd => ?_⟩
      obtain ⟨rfl, fy⟩ := hy
      have hi : i < ds.length := by have := (List.getElem?_eq_some_iff.mp hd).1; rwa [List.length_reverse] at this
      rw [List.getElem?_reverse hi, ← hl] at hd
      obtain ⟨y, h1, h2⟩ := r.get hd
      cases (fy _ g').symm.trans h1
      exact ⟨F', Ex.refl _, hs', h2.mono e'⟩)
end
end Oc

/-! Own layer: list(range), pop at a place, insert, lists times n, loops over a list that may change elsewhere. -/
namespace Oc
open PySem PySem.Spec L2
open Evl (Ex)
section
variable {X : Cy} {a b e o : Expr} {es : List Expr} {ρ : Rho} {μ : Mu} {Φ : D → Mu → Prop} {E : En} {pos p p2 cpos apos : Pos}
theorem rg_reps {K : PySem.W.Frag} {F : Hp} (i j : Int) : Reps K F (rgV i j) (rngD i (j - i).toNat) := reps_map (fun k => .int _) _
/-- list(range(a, b)): a new cell -/
theorem w_listRg2 {p0 : Pos} (hc : X.calm = true) (hl : X.mg "list" = none) (hm : X.mg "range" = none) (h : wE X a ρ μ fun d μ1 => wE X b ρ μ1 fun d' μ2 => ∃ i j : Int, d = .int i ∧ d' = .int j ∧ (-1000000 ≤ i ∧ i ≤ 1000000 ∧ -1000000 ≤ j ∧ j ≤ 1000000) ∧ ∀ q, Φ (.ptr q) ((q, .lst (rngD i (j - i).toNat)) :: μ2))
    (hgl : Gl X "list" := by rfl) (hg : Gl X "range" := by rfl) (na : starEach [a, b] X.env = (false, eval a X.env) :: starEach [b] X.env := by rfl) (nb : starEach [b] X.env = (false, eval b X.env) :: starEach [] X.env := by rfl) (hp : (backTo p0 (starEach [b] X.env)).any (·.1) = false := by rfl)
    (nl : starEach [.Call (.Name "range" p) [a, b] [] p0] X.env = (false, eval (.Call (.Name "range" p) [a, b] [] p0) X.env) :: starEach [] X.env := by rfl) : wE X (.Call (.Name "list" p2) [.Call (.Name "range" p) [a, b] [] p0] [] pos) ρ μ Φ := fun F σ H hh sl Q kt =>
  se_of (pe_listRg hc hgl hl (prg_2 hg hm pe_s pe_s na nb hp) nl) (binW h hh sl fun x y F2 H2 d1 d2 μ2 z e2 hs2 r1 r2 => by
    obtain ⟨i, j, rfl, rfl, hb, q⟩ := z
    cases r1
    cases r2
    exact ⟨i, j, rfl, rfl, ⟨by omega, by omega, by omega, by omega, by omega⟩, fun q' hq => kt _ _ _ _ _ (q q') e2 (hs2.cell hq (.lst (rg_reps i j))) (.ptr q')⟩)
theorem w_listRg1 {p0 : Pos} (hc : X.calm = true) (hl : X.mg "list" = none) (hm : X.mg "range" = none) (h : wE X a ρ μ fun d μ1 => ∃ j : Int, d = .int j ∧ (-1000000 ≤ j ∧ j ≤ 1000000) ∧ ∀ q, Φ (.ptr q) ((q, .lst (rngD 0 j.toNat)) :: μ1))
    (hgl : Gl X "list" := by rfl) (hg : Gl X "range" := by rfl) (na : starEach [a] X.env = (false, eval a X.env) :: starEach [] X.env := by rfl)
    (nl : starEach [.Call (.Name "range" p) [a] [] p0] X.env = (false, eval (.Call (.Name "range" p) [a] [] p0) X.env) :: starEach [] X.env := by rfl) : wE X (.Call (.Name "list" p2) [.Call (.Name "range" p) [a] [] p0] [] pos) ρ μ Φ := fun F σ H hh sl Q kt =>
  se_of (pe_listRg hc hgl hl (prg_1 hg hm pe_s na) nl) (h F σ H hh sl _ fun v F1 H1 d μ1 z e1 hs1 r1 => by
    obtain ⟨j, rfl, hb, q⟩ := z
    cases r1
    refine ⟨j, rfl, ⟨by omega, by omega, by omega, by omega, by omega⟩, fun q' hq => kt _ _ _ _ _ (q q') e1 (hs1.cell hq (.lst ?_)) (.ptr q')⟩
    have := rg_reps (K := X.K) (F := F1) 0 j
    rwa [Int.sub_zero] at this)
theorem Reps.eraseIdx {K : PySem.W.Frag} {F : Hp} : ∀ {v : List V} {d : List D} (n : Nat), Reps K F v d → Reps K F (v.eraseIdx n) (d.eraseIdx n)
  | _, _, _, .nil => .nil
  | _, _, 0, .cons _ r => r
  | _, _, n + 1, .cons q r => .cons q (Reps.eraseIdx n r)
theorem m_popAt {q : Addr} {ds : List D} {d : D} (m : Nat) (hm : μ[m]? = some (q, .lst ds)) (n : Nat) (hd : ds[n]? = some d) (hz : ds.length ≤ 1000000) (k : Φ d (μ.set m (q, .lst (ds.eraseIdx n)))) : wMt X "list" "list.pop" (.ptr q) [.int n] μ Φ := by
  have hl := (List.getElem?_eq_some_iff.mp hd).1
  refine wmt_of mt_popAt fun F H u us hs r1 r2 Q kt => ?_
  cases r1
  cases r2 with
  | cons r rr =>
    cases rr
    cases r
    obtain ⟨xs, g, rx⟩ := hs.lst hm
    obtain ⟨v, h1, h2⟩ := rx.get hd
    refine ⟨_, _, _, n, v, rfl, rfl, g, by omega, by omega, ?_, h1, kt.now k (hs.write hm (.lst (Reps.eraseIdx n rx))) h2⟩
    have hx : n < xs.length := by rw [rx.length]; exact hl
    have h9 : ¬ ((n : Int) < 0) := by omega
    unfold seqIndex?
    simp only [if_neg h9]
    simp
    omega
theorem m_insert {q : Addr} {ds : List D} {d : D} (m : Nat) (hm : μ[m]? = some (q, .lst ds)) (n : Nat) (hn : n ≤ 1000000) (hz : ds.length ≤ 1000000) (k : Φ .non (μ.set m (q, .lst (ds.take n ++ [d] ++ ds.drop n)))) : wMt X "list" "list.insert" (.ptr q) [.int n, d] μ Φ :=
  wmt_of mt_insert fun F H u us hs r1 r2 Q kt => by
  cases r1
  cases r2 with
  | cons r rr =>
    cases rr with
    | cons r2 rr =>
      cases rr
      cases r
      obtain ⟨xs, g, rx⟩ := hs.lst hm
      refine ⟨_, _, n, _, rfl, rfl, g, Nat.lt_of_le_of_lt (by rw [rx.length]; exact hz) (show 1000000 < sizeLine by decide), by omega, by omega, ?_⟩
      rw [Int.toNat_natCast]
      exact kt.now k (hs.write hm (.lst (((rx.take n).append (.one r2)).append (rx.drop n)))) .non
theorem w_popAt (h : wE X o ρ μ fun d μ1 => tyD "list" d μ1 ∧ wA X [e] ρ μ1 fun ds μ2 => wMt X "list" "list.pop" d ds μ2 Φ) (hbase : attributeBase o "pop" X.env (eval o X.env) = eval o X.env := by rfl)
    (hfew : ((backTo cpos (starEach [e] X.env)).all (fun x => !x.1) && (backToKw cpos (keywordEach [] X.env)).all (fun x => x.1.isSome) && decide (([e] : List Expr).length + ([] : List Keyword).length + (if ([] : List Keyword).isEmpty then 0 else 1) < 30)) = true := by rfl)
    (hline : (apos.endLine == cpos.line) = true := by rfl) (hs : starEach [e] X.env = (false, eval e X.env) :: starEach [] X.env := by rfl) : wE X (.Call (.Attribute o "pop" apos) [e] [] cpos) ρ μ Φ :=
  w_bm (by decide) PySem.F.plainAttrs_list PySem.F.slot_list_pop PySem.F.type_list_pop h hbase hfew hline hs rfl
theorem w_insert (h : wE X o ρ μ fun d μ1 => tyD "list" d μ1 ∧ wA X [a, b] ρ μ1 fun ds μ2 => wMt X "list" "list.insert" d ds μ2 Φ) (hbase : attributeBase o "insert" X.env (eval o X.env) = eval o X.env := by rfl)
    (hfew : ((backTo cpos (starEach [a, b] X.env)).all (fun x => !x.1) && (backToKw cpos (keywordEach [] X.env)).all (fun x => x.1.isSome) && decide (([a, b] : List Expr).length + ([] : List Keyword).length + (if ([] : List Keyword).isEmpty then 0 else 1) < 30)) = true := by rfl)
    (hline : (apos.endLine == cpos.line) = true := by rfl) (hs : starEach [a, b] X.env = (false, eval a X.env) :: starEach [b] X.env := by rfl) (hp : (backTo cpos (starEach [b] X.env)).any (·.1) = false := by rfl) : wE X (.Call (.Attribute o "insert" apos) [a, b] [] cpos) ρ μ Φ :=
  w_bm (by decide) PySem.F.plainAttrs_list PySem.F.slot_list_insert PySem.F.type_list_insert h hbase hfew hline hs hp
/-- [..] * n: a new cell -/
theorem o_repL {ds : List D} {k : Int} (hk : 0 ≤ k ∧ k ≤ 1000) (hz : ds.length ≤ 1000) (q : ∀ p, Φ (.ptr p) ((p, .lst (List.replicate k.toNat ds).flatten) :: μ)) : wOp X (binaryOp .Mult) (.lst ds) (.int k) μ Φ := wop_of op_rep fun F H x y hs r1 r2 Q kt => by
  cases r2
  cases r1 with
  | lst g r =>
    have h1 : ds.length * k.toNat ≤ 1000 * 1000 := Nat.mul_le_mul hz (by omega)
    refine ⟨_, k, _, rfl, rfl, hs.ex _ _ g, by omega, by omega, Nat.le_trans (by rw [r.length]; exact h1) (show 1000 * 1000 ≤ sizeLine by decide), fun p hp => ?_⟩
    exact kt _ _ _ _ _ (q p) (Ex.refl _) (hs.cell hp (.lst (Reps.rep r _))) (.ptr p)
/-- a list that may change, and one that stands still -/
theorem o_addPL {q : Addr} {xs ys : List D} (m : Nat) (hm : μ[m]? = some (q, MO.lst xs)) (hc : xs.length + ys.length ≤ 1000000) (k : Φ (.lst (xs ++ ys)) μ) : wOp X (binaryOp .Add) (.ptr q) (.lst ys) μ Φ := wop_of op_cat fun F H _ _ hs r1 r2 Q kt => by
  cases r1
  cases r2 with
  | lst g2 q2 =>
    obtain ⟨vs, g1, q1⟩ := hs.lst hm
    have l1 := q1.length
    have l2 := q2.length
    refine ⟨_, _, _, _, rfl, rfl, g1, hs.ex _ _ g2, Nat.le_trans (by omega) (show 1000000 ≤ sizeLine by decide), fun p hp => ?_⟩
    obtain ⟨s1, s2⟩ := hs.laid (u := .lst _) hp
    exact kt _ _ _ _ _ k s2 s1 (.lst upd_same ((q1.append q2).mono s2))
theorem c_isiP {n : String} {q : Addr} {ds : List D} {k : Bool} (m : Nat) (hm : μ[m]? = some (q, MO.lst ds)) (hk : PySem.W.kitOne X.K (.type "list") (.type n) = some k) (z : Φ (.bl k) μ) : wCl X (.builtin "isinstance") [.ptr q, .ty n] μ Φ := wcl_of call_isi fun F H xs hs r1 Q kt => by
  cases r1 with
  | cons r rr =>
    cases rr with
    | cons r2 rr =>
      cases rr
      cases r2
      cases r
      obtain ⟨vs, g, rx⟩ := hs.lst hm
      exact ⟨_, _, _, _, k, rfl, .ty n, .base (.lst g), hk, kt.now z hs (.bl _)⟩
/-! loops over a cell -/
def WkP (K : KF) (F : Hp) (J : It) (its : List D) (P : Mu → Prop) : Prop := ∀ i F' μ H, Ex F F' → P μ → Hs K F' μ H → (i < its.length → J.go i H) ∧ (i = its.length → J.stop i H) ∧ ∀ x H' d, J.yld i H x H' → its[i]? = some d → ∃ F2, Ex F' F2 ∧ Hs K F2 μ H' ∧ Rep K F2 x d
def wIP (X : Cy) (tg iter : Expr) (ρ : Rho) (μ : Mu) (ΦI : List D → (Mu → Prop) → Mu → Prop) : Prop := ∀ F σ H, Hs X.K F μ H → Sl X.K F ρ σ → ∀ R, (∀ J its P F' μ' H', ΦI its P μ' → Ex F F' → Hs X.K F' μ' H' → WkP X.K F' J its P → R J H') → sI X tg iter σ H R
theorem wi_ptr {tg : Expr} {ΦI : List D → (Mu → Prop) → Mu → Prop} (h : wE X e ρ μ fun d μ1 => ∃ q ds, d = .ptr q ∧ (∃ m : Nat, μ1[m]? = some (q, MO.lst ds)) ∧ ΦI ds (fun μ' => ∃ m : Nat, μ'[m]? = some (q, MO.lst ds)) μ1) : wIP X tg e ρ μ ΦI := fun F σ H hs sl R kt =>
  si_of (pi_list pe_s) (h F σ H hs sl _ fun v F1 H1 d μ1 ⟨q, ds, hd, ⟨m, hm⟩, z⟩ e1 hs1 r1 => by
    subst hd
    cases r1
    obtain ⟨xs, g, r⟩ := hs1.lst hm
    refine ⟨q, rfl, ⟨xs, Evl.sq_of g⟩, kt _ ds _ F1 μ1 H1 z e1 hs1 fun i F' μ' H' e' ⟨m', hm'⟩ hs' => ?_⟩
    obtain ⟨ys, g', r'⟩ := hs'.lst hm'
    refine ⟨fun hi => ⟨ys, ys[i]'(by rw [r'.length]; exact hi), Evl.sq_of g', List.getElem?_eq_getElem _⟩, fun hi => ⟨ys, Evl.sq_of g', by rw [r'.length]; exact Nat.le_of_eq hi.symm⟩, fun x H2 d hy hd => ?_⟩
    obtain ⟨rfl, fy⟩ := hy
    obtain ⟨y, h1, h2⟩ := r'.get hd
    cases (fy _ (Evl.sq_of g')).symm.trans h1
    exact ⟨F', Ex.refl _, hs', h2⟩)
theorem w_forP {tg iter : Expr} {body : List Stmt} (h : wIP X tg iter ρ μ fun its P μ1 => ∃ Iv : Nat → Rho → Mu → Prop, Iv 0 ρ μ1 ∧ (∀ i ρ' μ', Iv i ρ' μ' → P μ') ∧
      (∀ i x ρ' μ', its[i]? = some x → Iv i ρ' μ' → wG X tg x ρ' μ' fun ρ2 μ2 => wSs X body ρ2 μ2 { nx := Iv (i + 1), rt := E.rt, bk := E.nx, ct := Iv (i + 1) }) ∧ (∀ ρ' μ', Iv its.length ρ' μ' → E.nx ρ' μ'))
    (hp : PassesOwn (model X.prog X.w) X.A X.env X.xe) (hc : X.calm = true) (hs : ∀ x, foldedSetIterable iter X.env x = pure x := by intro _; rfl) : wS X (.For tg iter body [] pos) ρ μ E := fun F σ H hh sl D kt =>
  ss_of (ps_for hp hc pi_s pg_s pss_s hs) (h F σ H hh sl _ fun J its P F1 μ1 H1 ⟨Iv, h0, hP, ht, hd⟩ e1 hs1 wk => by
    refine ⟨fun i m σ' H' => m = its.length - i ∧ i ≤ its.length ∧ ∃ F' ρ' μ', Ex F1 F' ∧ Hs X.K F' μ' H' ∧ Sl X.K F' ρ' σ' ∧ Iv i ρ' μ', ⟨its.length, by simp, Nat.zero_le _, F1, ρ, μ1, Ex.refl _, hs1, sl.mono e1, h0⟩, ?_⟩
    rintro i m σ' H' ⟨rfl, hi, F', ρ', μ', e2, hs2, sl2, iv⟩
    obtain ⟨w1, w2, w3⟩ := wk i F' μ' H' e2 (hP i ρ' μ' iv) hs2
    by_cases hlt : i < its.length
    · refine .inr ⟨w1 hlt, fun σ3 H3 => ∃ F3 ρ3 μ3, Ex F1 F3 ∧ Hs X.K F3 μ3 H3 ∧ Sl X.K F3 ρ3 σ3 ∧ Iv (i + 1) ρ3 μ3, fun σ3 H3 q => ⟨its.length - (i + 1), by omega, rfl, hlt, q⟩, fun x H3 hy => ?_⟩
      have hx : its[i]? = some its[i] := List.getElem?_eq_getElem hlt
      obtain ⟨F3, e3, hs3, r3⟩ := w3 x H3 _ hy hx
      refine ht i _ ρ' μ' hx iv F3 σ' H3 x hs3 (sl2.mono e3) r3 _ fun F4 H4 σ4 ρ4 μ4 q4 e4 hs4 sl4 => ?_
      have up : ∀ {F5 : Hp}, Ex F4 F5 → Ex F1 F5 := fun z => e2.trans (e3.trans (e4.trans z))
      refine q4 F4 σ4 H4 hs4 sl4 _ ⟨fun F5 H5 σ5 ρ5 μ5 q5 e5 hs5 sl5 => ⟨F5, ρ5, μ5, up e5, hs5, sl5, q5⟩, ?_, ?_, fun F5 H5 σ5 ρ5 μ5 q5 e5 hs5 sl5 => ⟨F5, ρ5, μ5, up e5, hs5, sl5, q5⟩⟩
      · exact kt.rt.mono (e1.trans (up (Ex.refl _)))
      · exact kt.nx.mono (e1.trans (up (Ex.refl _)))
    · have he : i = its.length := by omega
      subst he
      exact .inl ⟨w2 rfl, kt.nx F' H' σ' ρ' μ' (hd ρ' μ' iv) (e1.trans e2) hs2 sl2⟩)
end
end Oc

/-! Own layer: texts times a number, texts sorted. -/
namespace Oc
open PySem PySem.Spec L2
open Evl (Ex)
section
variable {X : Cy} {μ : Mu} {Φ : D → Mu → Prop} {d : D}
theorem strs_of {K : PySem.W.Frag} {F : Hp} : ∀ {v : List V} {xs : List Str}, Reps K F v (xs.map D.str) → v = xs.map V.str
  | _, [], .nil => rfl
  | _, _ :: _, .cons r rr => by cases r; rw [strs_of rr]; rfl
/-- sorted(xs) of texts: a new cell -/
theorem c_sortedS {xs : List Str} (hd : d = .lst (xs.map D.str)) (hz : xs.length < 64) (k : ∀ (ys : List Str) (p : Addr), ys.Perm xs → PyProof.Rows.sortedS ys = true → Φ (.ptr p) ((p, .lst (ys.map D.str)) :: μ)) : wCl X (.builtin "sorted") [d] μ Φ :=
  wcl_of cr_sortedS fun F H vs hs r1 Q kt => by
  subst hd
  cases r1 with
  | cons r rr =>
    cases rr
    cases r with
    | lst g r =>
      have e := strs_of r
      subst e
      exact ⟨_, xs, rfl, Evl.sq_of (hs.ex _ _ g), hz, fun ys p h1 h2 hp => kt _ _ _ _ _ (k ys p h1 h2) (Ex.refl _) (hs.cell hp (.lst (reps_map (fun y => .str y) ys))) (.ptr p)⟩
end
/-! sorted texts are one -/
open PyProof.Rows (sortedS risingS ltCps_eq) in
theorem rising_pw : ∀ (p : Str) (l : List Str), risingS p l = true → (p :: l).Pairwise fun a b => a.cps.toList ≤ b.cps.toList
  | p, [], _ => List.pairwise_singleton _ _
  | p, x :: r, h => by
    have h1 : (!ltCps x.cps.toList p.cps.toList && risingS x r) = true := h
    rw [Bool.and_eq_true, Bool.not_eq_true', ltCps_eq, decide_eq_false_iff_not] at h1
    have ih := rising_pw x r h1.2
    have hpx : p.cps.toList ≤ x.cps.toList := h1.1
    refine List.pairwise_cons.mpr ⟨fun y hy => ?_, ih⟩
    rcases List.mem_cons.mp hy with rfl | hy
    · exact hpx
    · exact List.le_trans hpx (List.rel_of_pairwise_cons ih hy)
open PyProof.Rows (sortedS) in
theorem sorted_pw {l : List Str} (h : sortedS l = true) : l.Pairwise fun a b => a.cps.toList ≤ b.cps.toList := by
  cases l with
  | nil => exact .nil
  | cons x r => exact rising_pw x r h
theorem pw_uniq : ∀ (l l' : List Str), l.Perm l' → l.Pairwise (fun a b => a.cps.toList ≤ b.cps.toList) → l'.Pairwise (fun a b => a.cps.toList ≤ b.cps.toList) → l = l'
  | [], l', h, _, _ => (List.Perm.nil_eq h)
  | x :: r, [], h, _, _ => absurd h.length_eq (by simp)
  | x :: r, y :: t, h, h1, h2 => by
    have hxy : x.cps.toList ≤ y.cps.toList := by
      have := h.mem_iff.mpr (List.mem_cons_self (a := y) (l := t))
      rcases List.mem_cons.mp this with rfl | hy
      · exact List.le_refl _
      · exact List.rel_of_pairwise_cons h1 hy
    have hyx : y.cps.toList ≤ x.cps.toList := by
      have := h.mem_iff.mp (List.mem_cons_self (a := x) (l := r))
      rcases List.mem_cons.mp this with rfl | hy
      · exact List.le_refl _
      · exact List.rel_of_pairwise_cons h2 hy
    have e : x = y := PyProof.Rows.str_eq_of_lists (List.le_antisymm hxy hyx)
    subst e
    rw [pw_uniq r t (List.Perm.cons_inv h) (List.pairwise_cons.mp h1).2 (List.pairwise_cons.mp h2).2]
theorem sorted_uniq {l l' xs : List Str} (h : l.Perm xs) (h' : l'.Perm xs) (s : PyProof.Rows.sortedS l = true) (s' : PyProof.Rows.sortedS l' = true) : l = l' := pw_uniq l l' (h.trans h'.symm) (sorted_pw s) (sorted_pw s')
theorem nodup_perm : ∀ {α : Type} [DecidableEq α] {l l' : List α}, l.Nodup → l'.Nodup → (∀ x, x ∈ l ↔ x ∈ l') → l.Perm l'
  | _, _, l, l', h, h', e => by
    rw [List.perm_iff_count]
    intro a
    by_cases ha : a ∈ l
    · rw [h.count, h'.count, if_pos ha, if_pos ((e a).mp ha)]
    · rw [List.count_eq_zero.mpr ha, List.count_eq_zero.mpr fun z => ha ((e a).mpr z)]
/-- a sign times a small number -/
theorem op_mulC {X : Cy} : OpR X (binaryOp .Mult) (fun x y H Q => ∃ (c v : Nat), x = .str ⟨#[c]⟩ ∧ y = .int (v : Int) ∧ (1 ≤ v ∧ v ≤ 5) ∧ Q (.str ⟨(List.replicate v c).toArray⟩) H) := by
  intro pins s σ H x y u w Q I rx ry h
  obtain ⟨c, v, rfl, rfl, hv, q⟩ := h
  obtain ⟨t, rfl⟩ := rx
  obtain ⟨t', rfl⟩ := ry
  have hl1 : (⟨#[c]⟩ : Str).length = 1 := rfl
  refine PySem.P.mul_str (by rw [decide_eq_false (by omega), decide_eq_false (by omega)]; rfl) (fun _ _ => by rw [hl1]; exact (match v, hv with
    | 1, _ => by decide
    | 2, _ => by decide
    | 3, _ => by decide
    | 4, _ => by decide
    | 5, _ => by decide)) (fun _ _ => by rw [hl1]; exact (match v, hv with
    | 1, _ => by decide
    | 2, _ => by decide
    | 3, _ => by decide
    | 4, _ => by decide
    | 5, _ => by decide)) ?_
  rw [if_neg (by omega)]
  match v, hv with
  | 1, _ => rw [if_pos (by rfl)]; exact ⟨.str _, H, I, ⟨_, rfl⟩, q⟩
  | 2, _ => rw [if_neg (by rw [hl1]; decide)]; exact ⟨by show 2 ≤ sizeLine; decide, .str _, H, I.tok _, ⟨_, rfl⟩, q⟩
  | 3, _ => rw [if_neg (by rw [hl1]; decide)]; exact ⟨by show 3 ≤ sizeLine; decide, .str _, H, I.tok _, ⟨_, rfl⟩, q⟩
  | 4, _ => rw [if_neg (by rw [hl1]; decide)]; exact ⟨by show 4 ≤ sizeLine; decide, .str _, H, I.tok _, ⟨_, rfl⟩, q⟩
  | 5, _ => rw [if_neg (by rw [hl1]; decide)]; exact ⟨by show 5 ≤ sizeLine; decide, .str _, H, I.tok _, ⟨_, rfl⟩, q⟩
theorem o_mulC {X : Cy} {μ : Mu} {Φ : D → Mu → Prop} {c v : Nat} (hv : 1 ≤ v ∧ v ≤ 5) (k : Φ (.str ⟨(List.replicate v c).toArray⟩) μ) : wOp X (binaryOp .Mult) (.str ⟨#[c]⟩) (.int v) μ Φ := wop_of op_mulC fun F H x y hs r1 r2 Q kt => by
  cases r1
  cases r2
  exact ⟨c, v, rfl, rfl, hv, kt.now k hs (.str _)⟩
end Oc

/-! Own layer: dicts whose keys are tuples. -/
namespace Oc
open PySem PySem.Spec L2
open Evl (Ex)
/-- a tuple as a key -/
abbrev tkD (k : List Key) : D := .tup (k.map kD)
theorem rep_tk {K : PySem.W.Frag} {F : Hp} {v : V} {k : List Key} (r : Rep K F v (tkD k)) : ∃ b, v = .ref b ∧ F b = some (.tup (k.map kV)) := by
  cases r with
  | tup g q =>
    rw [rep_kDs q] at g
    exact ⟨_, rfl, g⟩
section
variable {X : Cy} {o k e f : Expr} {ρ : Rho} {μ : Mu} {Φ : D → Mu → Prop} {ΦT : Bool → Mu → Prop} {E : En} {pos apos cpos : Pos}
/-- the key on D -/
def TK (d : D) (k : List Key) : Prop := d = tkD k
theorem w_tget (hu : X.c.A.units + 1 < cLine) (h : wE X o ρ μ fun d1 μ1 => wE X k ρ μ1 fun d2 μ2 => ∃ (q : Addr) (m : Nat) (ds : List (List Key × D)) (kk : List Key) (d : D), d1 = .ptr q ∧ d2 = tkD kk ∧ μ2[m]? = some (q, MO.dt ds) ∧ valD ds kk = some d ∧ Φ d μ2) (hs : NoSl k := by exact fun _ _ => rfl) : wE X (.Subscript o k pos) ρ μ Φ := fun F σ H hh sl Q kt =>
  se_of (pe_dget hu pe_s pe_s hs) (binW h hh sl fun x y F2 H2 d1 d2 μ2 ⟨q, m, ds, kk, d, h1, h2, hm, hv, z⟩ e hs2 r1 r2 => by
    subst h1
    subst h2
    cases r1
    obtain ⟨b, rfl, hb⟩ := rep_tk r2
    obtain ⟨kvs, g, rk⟩ := hs2.dt hm
    obtain ⟨v, hv, rv⟩ := (rk.val kk).1 d hv
    exact ⟨q, v, rfl, by rw [← hv]; exact DGet.t g (hs2.ex _ _ hb), kt _ _ _ _ _ z e hs2 rv⟩)
theorem w_tput (hu : X.c.A.units + 1 < cLine) {q0 : Pos} (h : wE X e ρ μ fun d μ0 => wE X o ρ μ0 fun d1 μ1 => wE X k ρ μ1 fun d2 μ2 => ∃ (q : Addr) (m : Nat) (ds : List (List Key × D)) (kk : List Key), d1 = .ptr q ∧ d2 = tkD kk ∧ μ2[m]? = some (q, MO.dt ds) ∧ ds.length < 1000000 ∧ E.nx ρ (μ2.set m (q, .dt (putD ds kk d))))
    (hs : swapsWith e (some (.Subscript o k q0)) pos.line X.env = pure false := by rfl) : wS X (.Assign [.Subscript o k q0] e pos) ρ μ E := fun F σ H hh sl D kt =>
  ss_of (ps_dput hu pe_s pe_s pe_s hs) (h F σ H hh sl _ fun v F0 H0 d μ0 h0 e0 hs0 r0 => binW (R := fun x y H2 => ∃ a H4, x = .ref a ∧ DPut H2 a y v H4 ∧ D.nx σ H4) h0 hs0 (sl.mono e0) fun x y F2 H2 d1 d2 μ2 ⟨q, m, ds, kk, h1, h2, hm, hz, z⟩ e hs2 r1 r2 => by
    subst h1
    subst h2
    cases r1
    obtain ⟨b, rfl, hb⟩ := rep_tk r2
    obtain ⟨kvs, g, rk⟩ := hs2.dt hm
    have hz' : kvs.length < sizeLine := Nat.lt_trans (by rw [← rk.len]; exact hz) (show 1000000 < sizeLine by decide)
    exact ⟨q, _, rfl, DPut.t g (hs2.ex _ _ hb) hz', kt.nx F2 _ σ ρ _ z (e0.trans e) (hs2.write hm (.dt (rk.put (r0.mono e)))) (sl.mono (e0.trans e))⟩)
theorem w_tin (hu : X.c.A.units + 1 < cLine) (h : wE X k ρ μ fun d2 μ1 => wE X o ρ μ1 fun d1 μ2 => ∃ (q : Addr) (m : Nat) (ds : List (List Key × D)) (kk : List Key), d1 = .ptr q ∧ d2 = tkD kk ∧ μ2[m]? = some (q, MO.dt ds) ∧ Φ (.bl (valD ds kk).isSome) μ2) (hm : behindInMarks .In o = false := by rfl) : wE X (.Compare k [.In] [o] pos) ρ μ Φ := fun F σ H hh sl Q kt =>
  se_of (pe_cmp (pc_din hu pe_s pe_s) hm) (binW h hh sl fun y x F2 H2 d2 d1 μ2 ⟨q, m, ds, kk, h1, h2, hm, z⟩ e hs2 r2 r1 => by
    subst h1
    subst h2
    cases r1
    obtain ⟨b, rfl, hb⟩ := rep_tk r2
    obtain ⟨kvs, g, rk⟩ := hs2.dt hm
    refine ⟨q, _, rfl, DGet.t g (hs2.ex _ _ hb), ?_⟩
    rw [← (rk.val kk).2]
    exact kt _ _ _ _ _ z e hs2 (.bl _))
theorem w_tnin (hu : X.c.A.units + 1 < cLine) (h : wE X k ρ μ fun d2 μ1 => wE X o ρ μ1 fun d1 μ2 => ∃ (q : Addr) (m : Nat) (ds : List (List Key × D)) (kk : List Key), d1 = .ptr q ∧ d2 = tkD kk ∧ μ2[m]? = some (q, MO.dt ds) ∧ Φ (.bl (!(valD ds kk).isSome)) μ2) (hm : behindInMarks .NotIn o = false := by rfl) : wE X (.Compare k [.NotIn] [o] pos) ρ μ Φ := fun F σ H hh sl Q kt =>
  se_of (pe_cmp (pc_dnotin hu pe_s pe_s) hm) (binW h hh sl fun y x F2 H2 d2 d1 μ2 ⟨q, m, ds, kk, h1, h2, hm, z⟩ e hs2 r2 r1 => by
    subst h1
    subst h2
    cases r1
    obtain ⟨b, rfl, hb⟩ := rep_tk r2
    obtain ⟨kvs, g, rk⟩ := hs2.dt hm
    refine ⟨q, _, rfl, DGet.t g (hs2.ex _ _ hb), ?_⟩
    rw [← (rk.val kk).2]
    exact kt _ _ _ _ _ z e hs2 (.bl _))
theorem wt_tin (hu : X.c.A.units + 1 < cLine) (h : wE X k ρ μ fun d2 μ1 => wE X o ρ μ1 fun d1 μ2 => ∃ (q : Addr) (m : Nat) (ds : List (List Key × D)) (kk : List Key), d1 = .ptr q ∧ d2 = tkD kk ∧ μ2[m]? = some (q, MO.dt ds) ∧ ΦT (valD ds kk).isSome μ2) (hm : behindInMarks .In o = false := by rfl) : wT X (.Compare k [.In] [o] pos) ρ μ ΦT := fun F σ H hh sl Q kt =>
  st_of (pt_cmp (pc_din hu pe_s pe_s) hm) (binW h hh sl fun y x F2 H2 d2 d1 μ2 ⟨q, m, ds, kk, h1, h2, hm, z⟩ e hs2 r2 r1 => by
    subst h1
    subst h2
    cases r1
    obtain ⟨b, rfl, hb⟩ := rep_tk r2
    obtain ⟨kvs, g, rk⟩ := hs2.dt hm
    refine ⟨q, _, rfl, DGet.t g (hs2.ex _ _ hb), ?_⟩
    rw [← (rk.val kk).2]
    exact ⟨_, rfl, kt _ _ _ _ z e hs2⟩)
theorem wt_tnin (hu : X.c.A.units + 1 < cLine) (h : wE X k ρ μ fun d2 μ1 => wE X o ρ μ1 fun d1 μ2 => ∃ (q : Addr) (m : Nat) (ds : List (List Key × D)) (kk : List Key), d1 = .ptr q ∧ d2 = tkD kk ∧ μ2[m]? = some (q, MO.dt ds) ∧ ΦT (!(valD ds kk).isSome) μ2) (hm : behindInMarks .NotIn o = false := by rfl) : wT X (.Compare k [.NotIn] [o] pos) ρ μ ΦT := fun F σ H hh sl Q kt =>
  st_of (pt_cmp (pc_dnotin hu pe_s pe_s) hm) (binW h hh sl fun y x F2 H2 d2 d1 μ2 ⟨q, m, ds, kk, h1, h2, hm, z⟩ e hs2 r2 r1 => by
    subst h1
    subst h2
    cases r1
    obtain ⟨b, rfl, hb⟩ := rep_tk r2
    obtain ⟨kvs, g, rk⟩ := hs2.dt hm
    refine ⟨q, _, rfl, DGet.t g (hs2.ex _ _ hb), ?_⟩
    rw [← (rk.val kk).2]
    exact ⟨_, rfl, kt _ _ _ _ z e hs2⟩)
/-- d.get(k, x) -/
theorem w_tget2 (hu : X.c.A.units + 1 < cLine) (h : wE X o ρ μ fun d1 μ1 => ∃ (q : Addr), d1 = .ptr q ∧ (∃ (m : Nat) (ds : List (List Key × D)), μ1[m]? = some (q, MO.dt ds)) ∧ wE X e ρ μ1 fun d2 μ2 => wE X f ρ μ2 fun d3 μ3 => ∃ (m : Nat) (ds : List (List Key × D)) (kk : List Key), d2 = tkD kk ∧ μ3[m]? = some (q, MO.dt ds) ∧ Φ ((valD ds kk).getD d3) μ3)
    (m : M2 X o "get" apos e f cpos := by exact ⟨rfl, rfl, rfl, rfl⟩) : wE X (.Call (.Attribute o "get" apos) [e, f] [] cpos) ρ μ Φ := fun F σ H hh sl Q kt =>
  se_of (pe_dget2 hu pe_s pe_s pe_s m) (h F σ H hh sl _ fun x F1 H1 d1 μ1 ⟨q, h1, ⟨m1, ds1, hm1⟩, z⟩ e1 hs1 r1 => by
    subst h1
    cases r1
    obtain ⟨kvs1, g1, _⟩ := hs1.dt hm1
    refine ⟨q, rfl, .inr ⟨_, .inl g1⟩, z F1 σ H1 hs1 (sl.mono e1) _ fun y F2 H2 d2 μ2 z2 e2 hs2 r2 => z2 F2 σ H2 hs2 (sl.mono (e1.trans e2)) _ fun u F3 H3 d3 μ3 ⟨m, ds, kk, h2, hm, z3⟩ e3 hs3 r3 => ?_⟩
    subst h2
    obtain ⟨b, rfl, hb⟩ := rep_tk (r2.mono e3)
    obtain ⟨kvs, g, rk⟩ := hs3.dt hm
    refine ⟨_, DGet.t g (hs3.ex _ _ hb), ?_⟩
    cases hv : valD ds kk with
    | none =>
      have e0 : valV kvs kk = none := by
        have := (rk.val kk).2
        rw [hv] at this
        cases h5 : valV kvs kk with
        | none => rfl
        | some v => rw [h5] at this; cases this
      rw [e0]
      rw [hv] at z3
      exact kt _ _ _ _ _ z3 (e1.trans (e2.trans e3)) hs3 r3
    | some d =>
      obtain ⟨v, hv2, rv⟩ := (rk.val kk).1 d hv
      rw [hv2]
      rw [hv] at z3
      exact kt _ _ _ _ _ z3 (e1.trans (e2.trans e3)) hs3 rv)
/-- d.get(k) -/
theorem w_tget1 (hu : X.c.A.units + 1 < cLine) (h : wE X o ρ μ fun d1 μ1 => ∃ (q : Addr), d1 = .ptr q ∧ (∃ (m : Nat) (ds : List (List Key × D)), μ1[m]? = some (q, MO.dt ds)) ∧ wE X e ρ μ1 fun d2 μ3 => ∃ (m : Nat) (ds : List (List Key × D)) (kk : List Key), d2 = tkD kk ∧ μ3[m]? = some (q, MO.dt ds) ∧ Φ ((valD ds kk).getD .non) μ3)
    (m : M1 X o "get" apos e cpos := by exact ⟨rfl, rfl, rfl, rfl⟩) : wE X (.Call (.Attribute o "get" apos) [e] [] cpos) ρ μ Φ := fun F σ H hh sl Q kt =>
  se_of (pe_dget1 hu pe_s pe_s m) (h F σ H hh sl _ fun x F1 H1 d1 μ1 ⟨q, h1, ⟨m1, ds1, hm1⟩, z⟩ e1 hs1 r1 => by
    subst h1
    cases r1
    obtain ⟨kvs1, g1, _⟩ := hs1.dt hm1
    refine ⟨q, rfl, .inr ⟨_, .inl g1⟩, z F1 σ H1 hs1 (sl.mono e1) _ fun y F3 H3 d2 μ3 ⟨m, ds, kk, h2, hm, z3⟩ e3 hs3 r2 => ?_⟩
    subst h2
    obtain ⟨b, rfl, hb⟩ := rep_tk r2
    obtain ⟨kvs, g, rk⟩ := hs3.dt hm
    refine ⟨_, DGet.t g (hs3.ex _ _ hb), ?_⟩
    cases hv : valD ds kk with
    | none =>
      have e0 : valV kvs kk = none := by
        have := (rk.val kk).2
        rw [hv] at this
        cases h5 : valV kvs kk with
        | none => rfl
        | some v => rw [h5] at this; cases this
      rw [e0]
      rw [hv] at z3
      exact kt _ _ _ _ _ z3 (e1.trans e3) hs3 .non
    | some d =>
      obtain ⟨v, hv2, rv⟩ := (rk.val kk).1 d hv
      rw [hv2]
      rw [hv] at z3
      exact kt _ _ _ _ _ z3 (e1.trans e3) hs3 rv)
end
/-! {(..): v}: a display of one pair -/
def tDispT (tk tv : TE) : TE := fun σ H Q => ∀ p, H p = none → tk σ (upd H p (.dT [])) fun x H1 => tv σ H1 fun y H2 => ∃ x' y', [(x, y)] = [(x', y')] ∧ H2 p = some (.dT []) ∧ ∃ b k, x' = .ref b ∧ H2 b = some (.tup (k.map kV)) ∧ Q (.ref p) (upd H2 p (.dT [(k, y')]))
theorem pe_dispT {X : Cy} {pos : Pos} {k v : Expr} {tk tv : TE} (hu : X.c.A.units + 1 < cLine) (hk : PE X k tk) (hv : PE X v tv) : PE X (.Dict [some k] [v] pos) (tDispT tk tv) := by
  refine ⟨fun pins s σ H Q I q => ?_⟩
  have hn := I.hok.fresh (Nat.le_refl s.heap.objs.size)
  have I1 := I.laid (a := s.heap.objs.size) (o := .dT []) (h' := s.heap.push { cls := .type "dict", data := .dict #[] }) (t' := s.toks) (fun _ _ q => Heap.get?_push_of_some _ q) (Nat.le_refl _) (dt_empty s.heap I.big)
  rw [arm_eval_Dict, zip_pairTrees [some k] [v] X.env pos rfl rfl, dictDisplay_pairs (pairTrees [some k] [v] X.env pos) (by simp [pairTrees]) (by simp [pairTrees])]
  have hp := (pps_cons (pos := pos) hk hv pps_nil).run pins _ σ _ (fun ps H2 => ∃ x y, ps = [(x, y)] ∧ H2 s.heap.objs.size = some (.dT []) ∧ ∃ b k, x = .ref b ∧ H2 b = some (.tup (k.map kV)) ∧ Q (.ref s.heap.objs.size) (upd H2 s.heap.objs.size (.dT [(k, y)]))) I1 ?_
  · refine wpAny_bind (wpAny_standAt (wpAny_bind (wpAny_subDictH (knd := tupleKind (mixKind X.prog X.w)) (show X.c.A.units < cLine by omega) (by simp [pairTrees]) (thn hp fun ws s2 ⟨ps, H2, I2, rel, x, y, hps, e, b, kk, hx, hb, q2⟩ => ?_))))
    subst hps hx
    obtain ⟨z, hd, xs0, r0, dd⟩ := dt_of I2.hok e
    cases r0
    cases rel with
    | @cons _ pr _ _ h t =>
      cases t
      obtain ⟨ku, vu⟩ := pr
      obtain ⟨hku, hvu⟩ := h
      cases (show ku = Value.ref b from hku)
      refine ⟨[(kk, b, vu)], ⟨rfl, rfl, key_of I2.hok hb, trivial⟩, dd, fun h' tk dd' hs => wpAny_pure ⟨.ref s.heap.objs.size, _, ?_, rfl, q2⟩⟩
      obtain ⟨q, es, ep, hq, h2, h3, h4, h6, h5⟩ := dd'
      refine d_write I2 (by rw [e]; exact True.intro) hs ⟨q, hq⟩ ⟨by show (1 : Nat) ≤ sizeLine; decide, hd, [(kk, b, vu)], .cons ⟨rfl, ?_, hvu⟩ .nil, q, es, ep, hq, h2, h3, h4, h5⟩
      rw [upd_ne (ne_of hb e (fun z => nomatch z))]
      exact hb
  · exact q _ hn
theorem w_dispT {X : Cy} {k e : Expr} {ρ : Rho} {μ : Mu} {Φ : D → Mu → Prop} {pos : Pos} (hu : X.c.A.units + 1 < cLine) (h : ∀ q, wE X k ρ ((q, .dt []) :: μ) fun d1 μ1 => wE X e ρ μ1 fun d2 μ2 => ∃ (kk : List Key) (μ3 : Mu), d1 = tkD kk ∧ μ2 = (q, MO.dt []) :: μ3 ∧ Φ (.ptr q) ((q, MO.dt [(kk, d2)]) :: μ3)) : wE X (.Dict [some k] [e] pos) ρ μ Φ := fun F σ H hh sl Q kt =>
  se_of (pe_dispT hu pe_s pe_s) fun q hq => h q F σ _ (hh.cell hq (.dt .nil)) sl _ fun x F1 H1 d1 μ1 z1 e1 hs1 r1 => z1 F1 σ H1 hs1 (sl.mono e1) _ fun y F2 H2 d2 μ2 ⟨kk, μ3, h1, h2, z⟩ e2 hs2 r2 => by
    subst h1
    subst h2
    obtain ⟨b, rfl, hb⟩ := rep_tk (r1.mono e2)
    obtain ⟨kvs0, g, rk0⟩ := hs2.dt (i := 0) rfl
    cases rk0
    exact ⟨_, _, rfl, g, b, kk, rfl, hs2.ex _ _ hb, kt _ F2 _ _ _ z (e1.trans e2) (hs2.write (i := 0) rfl (.dt (.cons ⟨rfl, r2⟩ .nil))) (.ptr q)⟩
section
variable {X : Cy} {μ : Mu} {Φ : D → Mu → Prop}
theorem c_anyL {bs : List Bool} (k : Φ (.bl (bs.any id)) μ) (hc : X.calm = true := by rfl) : wCl X (.builtin "any") [.lst (bs.map D.bl)] μ Φ := wcl_of (cr_any hc) fun F H xs hs r1 Q kt => by
  cases r1 with
  | cons r rr =>
    cases rr
    cases r with
    | lst g r =>
      rw [reps_bools r] at g
      exact ⟨_, bs, rfl, Evl.sq_of (hs.ex _ _ g), kt.now k hs (.bl _)⟩
theorem c_allL {bs : List Bool} (k : Φ (.bl (bs.all id)) μ) (hc : X.calm = true := by rfl) : wCl X (.builtin "all") [.lst (bs.map D.bl)] μ Φ := wcl_of (cr_all hc) fun F H xs hs r1 Q kt => by
  cases r1 with
  | cons r rr =>
    cases rr
    cases r with
    | lst g r =>
      rw [reps_bools r] at g
      exact ⟨_, bs, rfl, Evl.sq_of (hs.ex _ _ g), kt.now k hs (.bl _)⟩
end
/-! what a dict holds -/
section
variable {κ : Type} [DecidableEq κ]
theorem valD_any (k : κ) : ∀ ds : List (κ × D), (ds.any fun kv => decide (kv.1 = k)) = (valD ds k).isSome
  | [] => rfl
  | p :: r => by
    by_cases e : p.1 = k
    · obtain ⟨a, b⟩ := p
      cases e
      rw [valD_pos, List.any_cons]
      simp
    · rw [valD_neg e, List.any_cons, valD_any k r]
      simp [e]
theorem putD_new {ds : List (κ × D)} {k : κ} {d : D} (h : valD ds k = none) : putD ds k d = ds ++ [(k, d)] := by
  unfold putD
  rw [valD_any, h]
  rfl
/-- a table written out -/
theorem valD_some {α : Type} {f : α → κ} {g : α → D} {d : D} {k : κ} : ∀ {l : List α}, (∃ a ∈ l, f a = k) → (∀ a ∈ l, f a = k → g a = d) → valD (l.map fun a => (f a, g a)) k = some d
  | [], h, _ => by obtain ⟨a, ha, _⟩ := h; cases ha
  | a :: l, h, hu => by
    rw [List.map_cons]
    by_cases e : f a = k
    · have := hu a List.mem_cons_self e
      subst e
      rw [valD_pos, this]
    · rw [valD_neg e]
      obtain ⟨b, hb, e2⟩ := h
      rcases List.mem_cons.mp hb with rfl | hb
      · exact absurd e2 e
      · exact valD_some ⟨b, hb, e2⟩ fun c hc => hu c (List.mem_cons_of_mem _ hc)
theorem valD_none {α : Type} {f : α → κ} {g : α → D} {k : κ} : ∀ {l : List α}, (∀ a ∈ l, f a ≠ k) → valD (l.map fun a => (f a, g a)) k = none
  | [], _ => rfl
  | a :: l, h => by
    rw [List.map_cons, valD_neg (h a List.mem_cons_self)]
    exact valD_none fun b hb => h b (List.mem_cons_of_mem _ hb)
end
theorem filter_next {α : Type} {l : List α} {i : Nat} {x : α} (h : l[i]? = some x) : l.take (i + 1) = l.take i ++ [x] := by rw [List.take_add_one, h]; rfl
theorem fm_yes {α β : Type} {f : α → Bool} {g : α → β} {l : List α} {t : Nat} {x : α} (h : l[t]? = some x) (hb : f x = true) : ((l.take t).filter f).map g ++ [g x] = ((l.take (t + 1)).filter f).map g := by
  rw [filter_next h, List.filter_append, List.map_append, List.filter_cons, if_pos hb]
  rfl
theorem fm_no {α β : Type} {f : α → Bool} {g : α → β} {l : List α} {t : Nat} {x : α} (h : l[t]? = some x) (hb : f x = false) : ((l.take t).filter f).map g = ((l.take (t + 1)).filter f).map g := by
  rw [filter_next h, List.filter_append, List.map_append, List.filter_cons, if_neg (by rw [hb]; exact Bool.false_ne_true)]
  exact (List.append_nil _).symm
theorem tm_next {α β : Type} {g : α → β} {l : List α} {t : Nat} {x : α} (h : l[t]? = some x) : (l.take t).map g ++ [g x] = (l.take (t + 1)).map g := by
  rw [filter_next h, List.map_append]
  rfl
theorem filt_head {α : Type} (f : α → Bool) (l : List α) : (l.filter f).head? = l.find? f := by
  induction l with
  | nil => rfl
  | cons a l ih =>
    by_cases h : f a = true
    · simp [h]
    · simp [h, ih]
theorem nodup_le : ∀ (n : Nat) (l : List Nat), l.Nodup → (∀ x ∈ l, x < n) → l.length ≤ n
  | 0, l, _, h => by
    cases l with
    | nil => exact Nat.le_refl _
    | cons x l => exact absurd (h x List.mem_cons_self) (Nat.not_lt_zero _)
  | n + 1, l, hd, h => by
    by_cases hn : n ∈ l
    · have h1 := nodup_le n (l.erase n) (hd.erase n) fun x hx => by
        have h2 := (List.Nodup.mem_erase_iff hd).mp hx
        have := h x h2.2
        omega
      rw [List.length_erase_of_mem hn] at h1
      omega
    · have h1 := nodup_le n l hd fun x hx => by
        have := h x hx
        have : x ≠ n := fun e => hn (e ▸ hx)
        omega
      omega
theorem nodup_map {α β : Type} {f : α → β} : ∀ {l : List α}, (∀ x ∈ l, ∀ y ∈ l, f x = f y → x = y) → l.Nodup → (l.map f).Nodup
  | [], _, _ => List.nodup_nil
  | a :: l, h, hn => by
    rw [List.map_cons, List.nodup_cons]
    have hn2 := List.nodup_cons.mp hn
    refine ⟨fun z => ?_, nodup_map (fun x hx y hy => h x (List.mem_cons_of_mem _ hx) y (List.mem_cons_of_mem _ hy)) hn2.2⟩
    obtain ⟨b, hb, e⟩ := List.mem_map.mp z
    have := h b (List.mem_cons_of_mem _ hb) a List.mem_cons_self e
    exact hn2.1 (this ▸ hb)
/-- distinct pairs of numbers below n -/
theorem pairs_le {n : Nat} {l : List (Nat × Nat)} (hd : l.Nodup) (h : ∀ p ∈ l, p.1 < n ∧ p.2 < n) : l.length ≤ n * n := by
  have h1 := nodup_le (n * n) (l.map fun p => p.1 * n + p.2) (nodup_map (fun x hx y hy e => ?_) hd) fun x hx => ?_
  · rwa [List.length_map] at h1
  · obtain ⟨a1, a2⟩ := h x hx
    obtain ⟨b1, b2⟩ := h y hy
    have e : x.1 * n + x.2 = y.1 * n + y.2 := e
    have e1 : x.1 = y.1 := by
      have h1 : (x.1 * n + x.2) / n = x.1 := by rw [Nat.mul_comm, Nat.mul_add_div (by omega), Nat.div_eq_of_lt a2, Nat.add_zero]
      have h2 : (y.1 * n + y.2) / n = y.1 := by rw [Nat.mul_comm, Nat.mul_add_div (by omega), Nat.div_eq_of_lt b2, Nat.add_zero]
      rw [← h1, e, h2]
    rw [e1] at e
    exact Prod.ext e1 (by omega)
  · obtain ⟨p, hp, rfl⟩ := List.mem_map.mp hx
    obtain ⟨a1, a2⟩ := h p hp
    show p.1 * n + p.2 < n * n
    have : (p.1 + 1) * n ≤ n * n := Nat.mul_le_mul_right n a1
    rw [Nat.add_mul] at this
    omega
end Oc

/-! Own layer: cells in another order, dicts that stand still, pairs sorted, setdefault. -/
namespace Oc
open PySem PySem.Spec L2
open Evl (Ex)
section
variable {K : PySem.W.Frag} {F H : Hp} {μ μ' : Mu}
theorem repK_split : ∀ {ds : List (List Key × D)} {kvs : List (List Key × V)}, RepK K F ds kvs → kvs.map (·.1) = ds.map (·.1) ∧ Reps K F (kvs.map (·.2)) (ds.map (·.2))
  | [], [], .nil => ⟨rfl, .nil⟩
  | _ :: _, _ :: _, .cons h t => ⟨by rw [List.map_cons, List.map_cons, (repK_split t).1, h.1], .cons h.2 (repK_split t).2⟩
theorem Hs.perm {K : KF} (h : Hs K F μ H) (p : μ'.Perm μ) : Hs K F μ' H := ⟨h.ex, (p.map (·.1)).nodup_iff.mpr h.nd, fun a o q => h.mu a o (p.mem_iff.mp q), h.gr⟩
end
section
variable {X : Cy} {e o k f : Expr} {sts : List Stmt} {ρ : Rho} {μ : Mu} {Φ : D → Mu → Prop} {ΦT : Bool → Mu → Prop} {E : En} {pos apos cpos : Pos}
/-- cells in another order -/
theorem w_pm (h : wE X e ρ μ fun d μ1 => ∃ μ2, μ2.Perm μ1 ∧ Φ d μ2) : wE X e ρ μ Φ := fun F σ H hs sl Q kt => h F σ H hs sl Q fun v F1 H1 d μ1 ⟨μ2, s, q⟩ x hs1 r => kt v F1 H1 d μ2 q x (hs1.perm s) r
theorem wSs_pm {μ' : Mu} (p : μ'.Perm μ) (h : wSs X sts ρ μ' E) : wSs X sts ρ μ E := fun F σ H hs sl D kt => h F σ H (hs.perm p) sl D kt
/-- a dict is changed no more: cell i, which slot j names -/
theorem wSs_fzD {i j : Nat} {q : Addr} {ds : List (List Key × D)} (hi : μ[i]? = some (q, .dt ds)) (hj : ρ[j]? = some (some (.ptr q))) (h : wSs X sts (ρ.set j (some (.dct (ds.map (·.1)) (ds.map (·.2))))) (μ.eraseIdx i) E) : wSs X sts ρ μ E := fun F σ H hs sl D kt pins s I => by
  obtain ⟨kvs, g, rk⟩ := hs.dt hi
  obtain ⟨hF, _⟩ := hs.at_ hi
  obtain ⟨od, I2⟩ := I.lock g (show Mut (some (.dT kvs)) from True.intro)
  have hsub := hs.sub (List.eraseIdx_sublist μ i)
  have hn : ∀ o, (q, o) ∉ μ.eraseIdx i := fun o z => by
    obtain ⟨j, hj, ne⟩ := List.mem_eraseIdx_iff_getElem?.mp z
    exact hj (nodup_get hs.nd ne hi)
  have hs2 : Hs X.K F (μ.eraseIdx i) (upd H q (.frz od (.dT kvs))) := ⟨fun a o z => by
      rw [upd_ne (ne_of_none z hF)]
      exact hs.ex a o z, hsub.nd, fun a o z => by
      obtain ⟨h1, u, h2, h3⟩ := hsub.mu a o z
      exact ⟨h1, u, by rw [upd_ne (fun e => by subst e; exact hn o z)]; exact h2, h3⟩, hs.gr⟩
  obtain ⟨hs3, e3⟩ := hs2.still hF upd_same hn
  obtain ⟨v, hv, rv⟩ := sl.at_ j _ hj
  cases rv
  obtain ⟨k1, k2⟩ := repK_split rk
  have r1 : Rep X.K (upd F q (.frz od (.dT kvs))) (.ref q) (.dct (ds.map (·.1)) (ds.map (·.2))) := .dct upd_same k1 (k2.mono e3)
  have e2 : σ.set j (some (V.ref q)) = σ := by
    apply List.ext_getElem?
    intro k
    by_cases hk : j = k
    · subst hk
      rw [List.getElem?_set_self (List.getElem?_eq_some_iff.mp hv).1, hv]
    · rw [List.getElem?_set_ne hk]
  have sl1 := (sl.mono e3).set j r1
  rw [e2] at sl1
  exact h _ σ _ hs3 sl1 D (kt.mono e3) pins s I2
/-- what a still dict holds -/
def valZ (ks : List (List Key)) (vs : List D) (k : List Key) : Option D := valD (ks.zip vs) k
theorem zip_rep {K : PySem.W.Frag} {F : Hp} : ∀ {kvs : List (List Key × V)} {ks : List (List Key)} {vs : List D}, kvs.map (·.1) = ks → Reps K F (kvs.map (·.2)) vs → RepK K F (ks.zip vs) kvs
  | [], _, _, rfl, .nil => .nil
  | (k, v) :: kvs, _, _, rfl, .cons r rr => .cons ⟨rfl, r⟩ (zip_rep rfl rr)
theorem valZ_map {α : Type} {f : α → List Key} {g : α → D} (l : List α) (k : List Key) : valZ ((l.map fun a => (f a, g a)).map (·.1)) ((l.map fun a => (f a, g a)).map (·.2)) k = valD (l.map fun a => (f a, g a)) k := by
  unfold valZ
  congr 1
  induction l with
  | nil => rfl
  | cons a l ih => rw [List.map_cons, List.map_cons, List.map_cons, List.zip_cons_cons, ih]
theorem dget_z {K : PySem.W.Frag} {F H : Hp} (ex : Ex F H) {v : V} {b : Addr} {ks : List (List Key)} {vs : List D} {kk : List Key} (r : Rep K F v (.dct ks vs)) (hb : F b = some (.tup (kk.map kV))) :
    ∃ q o, v = .ref q ∧ IsD H q ∧ DGet H q (.ref b) o ∧ o.isSome = (valZ ks vs kk).isSome ∧ (∀ d, valZ ks vs kk = some d → ∃ u, o = some u ∧ Rep K F u d) := by
  cases r with
  | dct g hk rv =>
    have rk := zip_rep hk rv
    refine ⟨_, _, rfl, .inr ⟨_, .inr ⟨_, ex _ _ g⟩⟩, .inr ⟨_, kk, b, .inr ⟨_, ex _ _ g⟩, rfl, ex _ _ hb, rfl⟩, (rk.val kk).2.symm, fun d hd => (rk.val kk).1 d hd⟩
theorem w_zget (hu : X.c.A.units + 1 < cLine) (h : wE X o ρ μ fun d1 μ1 => wE X k ρ μ1 fun d2 μ2 => ∃ (ks : List (List Key)) (vs : List D) (kk : List Key) (d : D), d1 = .dct ks vs ∧ d2 = tkD kk ∧ valZ ks vs kk = some d ∧ Φ d μ2) (hs : NoSl k := by exact fun _ _ => rfl) : wE X (.Subscript o k pos) ρ μ Φ := fun F σ H hh sl Q kt =>
  se_of (pe_dget hu pe_s pe_s hs) (binW h hh sl fun x y F2 H2 d1 d2 μ2 ⟨ks, vs, kk, d, h1, h2, hv, z⟩ e hs2 r1 r2 => by
    subst h1
    subst h2
    obtain ⟨b, rfl, hb⟩ := rep_tk r2
    obtain ⟨q, o, rfl, _, dg, _, hsome⟩ := dget_z hs2.ex r1 hb
    obtain ⟨u, rfl, ru⟩ := hsome d hv
    exact ⟨q, u, rfl, dg, kt _ _ _ _ _ z e hs2 ru⟩)
theorem w_zin (hu : X.c.A.units + 1 < cLine) (h : wE X k ρ μ fun d2 μ1 => wE X o ρ μ1 fun d1 μ2 => ∃ (ks : List (List Key)) (vs : List D) (kk : List Key), d1 = .dct ks vs ∧ d2 = tkD kk ∧ Φ (.bl (valZ ks vs kk).isSome) μ2) (hm : behindInMarks .In o = false := by rfl) : wE X (.Compare k [.In] [o] pos) ρ μ Φ := fun F σ H hh sl Q kt =>
  se_of (pe_cmp (pc_din hu pe_s pe_s) hm) (binW h hh sl fun y x F2 H2 d2 d1 μ2 ⟨ks, vs, kk, h1, h2, z⟩ e hs2 r2 r1 => by
    subst h1
    subst h2
    obtain ⟨b, rfl, hb⟩ := rep_tk r2
    obtain ⟨q, o, rfl, _, dg, hi, _⟩ := dget_z hs2.ex r1 hb
    refine ⟨q, _, rfl, dg, ?_⟩
    rw [hi]
    exact kt _ _ _ _ _ z e hs2 (.bl _))
theorem w_znin (hu : X.c.A.units + 1 < cLine) (h : wE X k ρ μ fun d2 μ1 => wE X o ρ μ1 fun d1 μ2 => ∃ (ks : List (List Key)) (vs : List D) (kk : List Key), d1 = .dct ks vs ∧ d2 = tkD kk ∧ Φ (.bl (!(valZ ks vs kk).isSome)) μ2) (hm : behindInMarks .NotIn o = false := by rfl) : wE X (.Compare k [.NotIn] [o] pos) ρ μ Φ := fun F σ H hh sl Q kt =>
  se_of (pe_cmp (pc_dnotin hu pe_s pe_s) hm) (binW h hh sl fun y x F2 H2 d2 d1 μ2 ⟨ks, vs, kk, h1, h2, z⟩ e hs2 r2 r1 => by
    subst h1
    subst h2
    obtain ⟨b, rfl, hb⟩ := rep_tk r2
    obtain ⟨q, o, rfl, _, dg, hi, _⟩ := dget_z hs2.ex r1 hb
    refine ⟨q, _, rfl, dg, ?_⟩
    rw [hi]
    exact kt _ _ _ _ _ z e hs2 (.bl _))
theorem wt_zin (hu : X.c.A.units + 1 < cLine) (h : wE X k ρ μ fun d2 μ1 => wE X o ρ μ1 fun d1 μ2 => ∃ (ks : List (List Key)) (vs : List D) (kk : List Key), d1 = .dct ks vs ∧ d2 = tkD kk ∧ ΦT (valZ ks vs kk).isSome μ2) (hm : behindInMarks .In o = false := by rfl) : wT X (.Compare k [.In] [o] pos) ρ μ ΦT := fun F σ H hh sl Q kt =>
  st_of (pt_cmp (pc_din hu pe_s pe_s) hm) (binW h hh sl fun y x F2 H2 d2 d1 μ2 ⟨ks, vs, kk, h1, h2, z⟩ e hs2 r2 r1 => by
    subst h1
    subst h2
    obtain ⟨b, rfl, hb⟩ := rep_tk r2
    obtain ⟨q, o, rfl, _, dg, hi, _⟩ := dget_z hs2.ex r1 hb
    refine ⟨q, _, rfl, dg, ?_⟩
    rw [hi]
    exact ⟨_, rfl, kt _ _ _ _ z e hs2⟩)
theorem wt_znin (hu : X.c.A.units + 1 < cLine) (h : wE X k ρ μ fun d2 μ1 => wE X o ρ μ1 fun d1 μ2 => ∃ (ks : List (List Key)) (vs : List D) (kk : List Key), d1 = .dct ks vs ∧ d2 = tkD kk ∧ ΦT (!(valZ ks vs kk).isSome) μ2) (hm : behindInMarks .NotIn o = false := by rfl) : wT X (.Compare k [.NotIn] [o] pos) ρ μ ΦT := fun F σ H hh sl Q kt =>
  st_of (pt_cmp (pc_dnotin hu pe_s pe_s) hm) (binW h hh sl fun y x F2 H2 d2 d1 μ2 ⟨ks, vs, kk, h1, h2, z⟩ e hs2 r2 r1 => by
    subst h1
    subst h2
    obtain ⟨b, rfl, hb⟩ := rep_tk r2
    obtain ⟨q, o, rfl, _, dg, hi, _⟩ := dget_z hs2.ex r1 hb
    refine ⟨q, _, rfl, dg, ?_⟩
    rw [hi]
    exact ⟨_, rfl, kt _ _ _ _ z e hs2⟩)
theorem reps_kV {K : PySem.W.Frag} {F : Hp} : ∀ ks : List Key, Reps K F (ks.map kV) (ks.map kD)
  | [] => .nil
  | .inl i :: ks => .cons (.int i) (reps_kV ks)
  | .inr x :: ks => .cons (.str x) (reps_kV ks)
/-- for k in d, d standing still -/
theorem wi_keysD {tg : Expr} {ΦI : List D → Mu → Prop} (h : wE X e ρ μ fun d μ1 => ∃ ks vs, d = .dct ks vs ∧ ΦI (ks.map tkD) μ1) : wI X tg e ρ μ ΦI := fun F σ H hs sl R kt =>
  si_of (pi_keys pe_s) (h F σ H hs sl _ fun v F1 H1 d μ1 ⟨ks, vs, hd, q⟩ e1 hs1 r1 => by
    subst hd
    cases r1 with
    | dct g hk r =>
      rename_i a o kvs
      refine ⟨a, o, rfl, .inr ⟨kvs, hs1.ex _ _ g, kt _ (ks.map tkD) F1 μ1 H1 q e1 hs1 fun i F' μ' H' e' hs' => ?_⟩⟩
      have g' := hs'.ex _ _ (e' _ _ g)
      have hl : kvs.length = ks.length := by rw [← hk, List.length_map]
      refine ⟨fun hi => ⟨g', by rw [hl]; rwa [List.length_map] at hi⟩, fun hi => ⟨g', by rw [hl]; rw [List.length_map] at hi; exact Nat.le_of_eq hi.symm⟩, fun x H2 d hy hd => ?_⟩
      obtain ⟨rfl, k, v, b, h1, rfl, hb⟩ := hy
      have hk2 : ks[i]? = some k := by rw [← hk, List.getElem?_map, h1]; rfl
      rw [List.getElem?_map, hk2] at hd
      cases hd
      cases hF : F' b with
      | some u =>
        have h3 := hs'.ex _ _ hF
        rw [hb] at h3
        cases h3
        exact ⟨F', Ex.refl _, hs', .tup hF (reps_kV k)⟩
      | none =>
        obtain ⟨g1, g2⟩ := hs'.still hF hb fun o z => by
          obtain ⟨_, u, h4, h5⟩ := hs'.mu _ _ z
          rw [hb] at h4
          cases h4
          cases h5
        exact ⟨_, g2, g1, .tup upd_same (reps_kV k)⟩)
/-- d.setdefault(k, x) -/
def tDSetdT (td ty tx : TE) : TE := fun σ H Q => td σ H fun x H1 => ∃ a, x = .ref a ∧ IsD H1 a ∧ ty σ H1 fun y H2 => tx σ H2 fun z H3 => ∃ (kvs : List (List Key × V)) (k : List Key) (b : Addr), H3 a = some (.dT kvs) ∧ y = .ref b ∧ H3 b = some (.tup (k.map kV)) ∧ kvs.length < sizeLine ∧
  (∀ v, valV kvs k = some v → Q v H3) ∧ (valV kvs k = none → Q z (upd H3 a (.dT (putK kvs k z))))
theorem pe_dsetdT {td ty tx : TE} (hu : X.c.A.units + 1 < cLine) (ho : PE X o td) (he : PE X e ty) (hf : PE X f tx) (m : M2 X o "setdefault" apos e f cpos) : PE X (.Call (.Attribute o "setdefault" apos) [e, f] [] cpos) (tDSetdT td ty tx) := by
  refine ⟨fun pins s σ H Q I h => ?_⟩
  refine wpAny_Call_method m.base m.few m.line PySem.F.plainAttrs_dict PySem.F.slot_dict_setdefault PySem.F.type_dict_setdefault (thn (ho.run pins s σ H _ I h) fun u s1 ⟨x, H1, I1, rx, a, ex, d, q1⟩ => ?_)
  subst ex
  obtain rfl : u = Value.ref a := rx
  obtain ⟨t1, t2, _⟩ := isD_at I1 d
  refine ⟨t1, t2, ?_⟩
  rw [m.trees]
  refine Calls.callWith_builtin rfl (Calls.evalArgs_plain (Calls.spliced_cons (thn (he.run pins s1 σ H1 _ I1 q1) fun iv s2 ⟨y, H2, I2, ry, q2⟩ =>
    Calls.spliced_cons (thn (hf.run pins s2 σ H2 _ I2 q2) fun fv s3 ⟨z, H3, I3, rz, kvs, k, b, ea, ey, eb, hl, q3, q4⟩ => Calls.spliced_nil ?_))))
  subst ey
  obtain rfl : iv = Value.ref b := ry
  obtain ⟨zz, hd, xs, rel, dd⟩ := dt_of I3.hok ea
  have hz : xs.length ≤ sizeLine := by rw [← Paired.length rel]; exact zz
  refine call_setdefault_heap (hsz := hz) (tupleKind_room_in1 hu) (key_of I3.hok eb) hd dd (fun p hp => ?_) fun hp h' dd' hs => ?_
  · have q := rel.val k
    rw [hp] at q
    cases q0 : valV kvs k with
    | none => rw [q0] at q; exact (show False from q).elim
    | some v0 =>
      rw [q0] at q
      exact ⟨v0, _, I3.tok _, q, q3 v0 q0⟩
  · have q := rel.val k
    rw [hp] at q
    cases q0 : valV kvs k with
    | some v0 => rw [q0] at q; exact (show False from q).elim
    | none =>
      have hl2 : (putK kvs k z).length ≤ sizeLine := by have := length_putK kvs k z; omega
      obtain ⟨qo, es, ep, hq, h2, h3, h4, _, h5⟩ := dd'
      refine ⟨z, _, d_write (ob := .dT (putK kvs k z)) I3 (by rw [ea]; exact True.intro) hs ⟨qo, hq⟩ ⟨hl2, hd, _, (rel.put k eb rz).keeps fun c ys ec => ?_, qo, es, ep, hq, h2, h3, h4, h5⟩, rz, q4 q0⟩
      rw [upd_ne (ne_of ec ea (fun z => nomatch z))]
      exact ec
theorem w_tsetd (hu : X.c.A.units + 1 < cLine) (h : wE X o ρ μ fun d1 μ1 => ∃ (q : Addr), d1 = .ptr q ∧ (∃ (m : Nat) (ds : List (List Key × D)), μ1[m]? = some (q, MO.dt ds)) ∧ wE X e ρ μ1 fun d2 μ2 => wE X f ρ μ2 fun d3 μ3 => ∃ (m : Nat) (ds : List (List Key × D)) (kk : List Key), d2 = tkD kk ∧ μ3[m]? = some (q, MO.dt ds) ∧ ds.length < 1000000 ∧
      (∀ d, valD ds kk = some d → Φ d μ3) ∧ (valD ds kk = none → Φ d3 (μ3.set m (q, .dt (putD ds kk d3)))))
    (m : M2 X o "setdefault" apos e f cpos := by exact ⟨rfl, rfl, rfl, rfl⟩) : wE X (.Call (.Attribute o "setdefault" apos) [e, f] [] cpos) ρ μ Φ := fun F σ H hh sl Q kt =>
  se_of (pe_dsetdT hu pe_s pe_s pe_s m) (h F σ H hh sl _ fun x F1 H1 d1 μ1 ⟨q, h1, ⟨m1, ds1, hm1⟩, z⟩ e1 hs1 r1 => by
    subst h1
    cases r1
    obtain ⟨kvs1, g1, _⟩ := hs1.dt hm1
    refine ⟨q, rfl, .inr ⟨_, .inl g1⟩, z F1 σ H1 hs1 (sl.mono e1) _ fun y F2 H2 d2 μ2 z2 e2 hs2 r2 => z2 F2 σ H2 hs2 (sl.mono (e1.trans e2)) _ fun u F3 H3 d3 μ3 ⟨m, ds, kk, h2, hm, hz, z3, z4⟩ e3 hs3 r3 => ?_⟩
    subst h2
    obtain ⟨b, rfl, hb⟩ := rep_tk (r2.mono e3)
    obtain ⟨kvs, g, rk⟩ := hs3.dt hm
    have hz' : kvs.length < sizeLine := Nat.lt_trans (by rw [← rk.len]; exact hz) (show 1000000 < sizeLine by decide)
    refine ⟨kvs, kk, b, g, rfl, hs3.ex _ _ hb, hz', fun v hv => ?_, fun hv => ?_⟩
    · have h6 := (rk.val kk).2
      rw [hv] at h6
      cases h7 : valD ds kk with
      | none => rw [h7] at h6; cases h6
      | some d =>
        obtain ⟨v', hv', rv⟩ := (rk.val kk).1 d h7
        rw [hv] at hv'
        cases hv'
        exact kt _ _ _ _ _ (z3 d h7) (e1.trans (e2.trans e3)) hs3 rv
    · have h6 := (rk.val kk).2
      rw [hv] at h6
      have h7 : valD ds kk = none := by
        cases h7 : valD ds kk with
        | none => rfl
        | some d => rw [h7] at h6; cases h6
      exact kt _ _ _ _ _ (z4 h7) (e1.trans (e2.trans e3)) (hs3.write hm (.dt (rk.put r3))) r3)
end
section
variable {X : Cy} {e o k f : Expr} {sts : List Stmt} {ρ : Rho} {μ : Mu} {Φ Ψ : D → Mu → Prop} {E : En} {pos apos cpos : Pos}
/-- d.get(k, x), d standing still -/
theorem w_zget2 (hu : X.c.A.units + 1 < cLine) (h : wE X o ρ μ fun d1 μ1 => ∃ (ks : List (List Key)) (vs : List D), d1 = .dct ks vs ∧ wE X e ρ μ1 fun d2 μ2 => wE X f ρ μ2 fun d3 μ3 => ∃ (kk : List Key), d2 = tkD kk ∧ Φ ((valZ ks vs kk).getD d3) μ3)
    (m : M2 X o "get" apos e f cpos := by exact ⟨rfl, rfl, rfl, rfl⟩) : wE X (.Call (.Attribute o "get" apos) [e, f] [] cpos) ρ μ Φ := fun F σ H hh sl Q kt =>
  se_of (pe_dget2 hu pe_s pe_s pe_s m) (h F σ H hh sl _ fun x F1 H1 d1 μ1 ⟨ks, vs, h1, z⟩ e1 hs1 r1 => by
    subst h1
    have r0 := r1
    cases r1 with
    | dct g hk rv =>
    rename_i a o kvs
    refine ⟨a, rfl, .inr ⟨_, .inr ⟨_, hs1.ex _ _ g⟩⟩, z F1 σ H1 hs1 (sl.mono e1) _ fun y F2 H2 d2 μ2 z2 e2 hs2 r2 => z2 F2 σ H2 hs2 (sl.mono (e1.trans e2)) _ fun u F3 H3 d3 μ3 ⟨kk, h2, z3⟩ e3 hs3 r3 => ?_⟩
    subst h2
    obtain ⟨b, rfl, hb⟩ := rep_tk (r2.mono e3)
    obtain ⟨q, o, hq, _, dg, hi, hsome⟩ := dget_z hs3.ex (r0.mono (e2.trans e3)) hb
    cases hq
    refine ⟨_, dg, ?_⟩
    cases hv : valZ ks vs kk with
    | none =>
      rw [hv] at hi z3
      cases o with
      | none => exact kt _ _ _ _ _ z3 (e1.trans (e2.trans e3)) hs3 r3
      | some u => cases hi
    | some d =>
      obtain ⟨v, rfl, rv⟩ := hsome d hv
      rw [hv] at z3
      exact kt _ _ _ _ _ z3 (e1.trans (e2.trans e3)) hs3 rv)
theorem w_zget1 (hu : X.c.A.units + 1 < cLine) (h : wE X o ρ μ fun d1 μ1 => ∃ (ks : List (List Key)) (vs : List D), d1 = .dct ks vs ∧ wE X e ρ μ1 fun d2 μ3 => ∃ (kk : List Key), d2 = tkD kk ∧ Φ ((valZ ks vs kk).getD .non) μ3)
    (m : M1 X o "get" apos e cpos := by exact ⟨rfl, rfl, rfl, rfl⟩) : wE X (.Call (.Attribute o "get" apos) [e] [] cpos) ρ μ Φ := fun F σ H hh sl Q kt =>
  se_of (pe_dget1 hu pe_s pe_s m) (h F σ H hh sl _ fun x F1 H1 d1 μ1 ⟨ks, vs, h1, z⟩ e1 hs1 r1 => by
    subst h1
    have r0 := r1
    cases r1 with
    | dct g hk rv =>
    rename_i a o kvs
    refine ⟨a, rfl, .inr ⟨_, .inr ⟨_, hs1.ex _ _ g⟩⟩, z F1 σ H1 hs1 (sl.mono e1) _ fun y F3 H3 d2 μ3 ⟨kk, h2, z3⟩ e3 hs3 r2 => ?_⟩
    subst h2
    obtain ⟨b, rfl, hb⟩ := rep_tk r2
    obtain ⟨q, o, hq, _, dg, hi, hsome⟩ := dget_z hs3.ex (r0.mono e3) hb
    cases hq
    refine ⟨_, dg, ?_⟩
    cases hv : valZ ks vs kk with
    | none =>
      rw [hv] at hi z3
      cases o with
      | none => exact kt _ _ _ _ _ z3 (e1.trans e3) hs3 .non
      | some u => cases hi
    | some d =>
      obtain ⟨v, rfl, rv⟩ := hsome d hv
      rw [hv] at z3
      exact kt _ _ _ _ _ z3 (e1.trans e3) hs3 rv)
/-! lists of lists: all cells frozen at once -/
theorem Hs.freezeL {K : KF} : ∀ (L : List (Addr × List D)) {F H : Hp} {μ : Mu}, Hs K F (L.map (fun e => (e.1, MO.lst e.2)) ++ μ) H → ∃ F', Ex F F' ∧ Hs K F' μ H ∧ ∀ e ∈ L, Rep K F' (.ref e.1) (.lst e.2)
  | [], F, H, μ, h => ⟨F, Ex.refl F, h, fun e he => (nomatch he)⟩
  | a :: L, F, H, μ, h => by
    obtain ⟨F1, e1, h1, r1⟩ := Hs.freeze h (i := 0) (p := a.1) (ds := a.2) rfl
    obtain ⟨F2, e2, h2, r2⟩ := Hs.freezeL L h1
    refine ⟨F2, e1.trans e2, h2, fun e he => ?_⟩
    rcases List.mem_cons.mp he with rfl | he
    · exact r1.mono e2
    · exact r2 e he
theorem reps_ptr {K : PySem.W.Frag} {F F' : Hp} : ∀ {L : List (Addr × List D)} {xs : List V}, Reps K F xs (L.map fun e => .ptr e.1) → (∀ e ∈ L, Rep K F' (.ref e.1) (.lst e.2)) → Reps K F' xs (L.map fun e => .lst e.2)
  | [], _, .nil, _ => .nil
  | e :: L, _, .cons r rr, h => by
    cases r
    exact .cons (h e List.mem_cons_self) (reps_ptr rr fun e he => h e (List.mem_cons_of_mem _ he))
/-- a list of lists stands still from now on -/
theorem w_fzT (h : wE X e ρ μ fun d μ1 => ∃ (t : Addr) (L : List (Addr × List D)) (μ2 : Mu), d = .ptr t ∧ ((t, MO.lst (L.map fun e => .ptr e.1)) :: (L.map (fun e => (e.1, MO.lst e.2)) ++ μ2)).Perm μ1 ∧ Φ (.lst (L.map fun e => .lst e.2)) μ2) : wE X e ρ μ Φ := fun F σ H hs sl Q kt => h F σ H hs sl Q fun v F1 H1 d μ1 ⟨t, L, μ2, hd, hp, q⟩ x hs1 r => by
  subst hd
  cases r
  obtain ⟨F2, e2, hs2, r2⟩ := Hs.freeze (hs1.perm hp) (i := 0) (p := t) rfl
  obtain ⟨F3, e3, hs3, r3⟩ := Hs.freezeL L hs2
  cases r2 with
  | lst g rr => exact kt _ F3 H1 _ μ2 q (x.trans (e2.trans e3)) hs3 (.lst (e3 _ _ g) (reps_ptr rr r3))
/-- the lists in a still dict, too -/
theorem wSs_fzV {j : Nat} {ks : List (List Key)} {L : List (Addr × List D)} {μ2 : Mu} (hj : ρ[j]? = some (some (.dct ks (L.map fun e => .ptr e.1)))) (hp : (L.map (fun e => (e.1, MO.lst e.2)) ++ μ2).Perm μ) (h : wSs X sts (ρ.set j (some (.dct ks (L.map fun e => .lst e.2)))) μ2 E) : wSs X sts ρ μ E := fun F σ H hs sl D kt => by
  obtain ⟨F3, e3, hs3, r3⟩ := Hs.freezeL L (hs.perm hp)
  obtain ⟨v, hv, rv⟩ := sl.at_ j _ hj
  have r1 : Rep X.K F3 v (.dct ks (L.map fun e => .lst e.2)) := by
    cases rv with
    | dct g hk rr => exact .dct (e3 _ _ g) hk (reps_ptr rr r3)
  have e2 : σ.set j (some v) = σ := by
    apply List.ext_getElem?
    intro k
    by_cases hk : j = k
    · subst hk
      rw [List.getElem?_set_self (List.getElem?_eq_some_iff.mp hv).1, hv]
    · rw [List.getElem?_set_ne hk]
  have sl1 := (sl.mono e3).set j r1
  rw [e2] at sl1
  exact h _ σ _ hs3 sl1 D (kt.mono e3)
end
/-! a list that may change, beside one that stands still -/
section
variable {X : Cy} {μ : Mu} {Φ : D → Mu → Prop}
theorem o_neP {q : Addr} {ds es : List D} {n k0 : Nat} (m : Nat) (hm : μ[m]? = some (q, MO.lst ds)) (hu : X.c.A.units + 64 < cLine) (h1 : Lys ds n) (h2 : Lys es k0) (k : Φ (.bl (!PyData.eqv (D.lst ds).py (D.lst es).py)) μ) (hn : n ≤ 60 := by decide) (hk : k0 ≤ 60 := by decide) : wOp X (compareOp .NotEq) (.ptr q) (.lst es) μ Φ := wop_of (op_neD hu) fun F H u v hs r1 r2 Q kt => by
  cases r1
  obtain ⟨xs, g, rx⟩ := hs.lst hm
  have e : (D.lst ds).py = .list (D.pys ds) := by simp only [D.py]
  have hp : Dp X.K H (.ref q) (D.lst ds).py := by rw [e]; exact .lst (Evl.sq_of g) (reps_py hs.ex rx h1.st)
  exact ⟨_, _, hp, rep_py hs.ex r2 (Ly.lst h2).st, (Ly.lst h1).shaped (by omega), (Ly.lst h2).shaped (by omega), kt.now k hs (.bl _)⟩
theorem o_eqP {q : Addr} {ds es : List D} {n k0 : Nat} (m : Nat) (hm : μ[m]? = some (q, MO.lst ds)) (hu : X.c.A.units + 64 < cLine) (h1 : Lys ds n) (h2 : Lys es k0) (k : Φ (.bl (PyData.eqv (D.lst ds).py (D.lst es).py)) μ) (hn : n ≤ 60 := by decide) (hk : k0 ≤ 60 := by decide) : wOp X (compareOp .Eq) (.ptr q) (.lst es) μ Φ := wop_of (op_eqD hu) fun F H u v hs r1 r2 Q kt => by
  cases r1
  obtain ⟨xs, g, rx⟩ := hs.lst hm
  have e : (D.lst ds).py = .list (D.pys ds) := by simp only [D.py]
  have hp : Dp X.K H (.ref q) (D.lst ds).py := by rw [e]; exact .lst (Evl.sq_of g) (reps_py hs.ex rx h1.st)
  exact ⟨_, _, hp, rep_py hs.ex r2 (Ly.lst h2).st, (Ly.lst h1).shaped (by omega), (Ly.lst h2).shaped (by omega), kt.now k hs (.bl _)⟩
end
/-! the last one; signs -/
section
variable {X : Cy} {μ : Mu} {Φ : D → Mu → Prop} {d : D}
theorem atI_last {α : Type} {l : List α} {x : α} : atI (l ++ [x]) (-1) = some x := by
  unfold atI ixN
  rw [if_neg (by decide), List.length_append]
  have h : -((l.length + [x].length : Nat) : Int) ≤ -1 := by show -((l.length + 1 : Nat) : Int) ≤ -1; omega
  rw [if_pos h]
  show (l ++ [x])[(-1 + ((l.length + 1 : Nat) : Int)).toNat]? = some x
  rw [show (-1 + ((l.length + 1 : Nat) : Int)).toNat = l.length by omega, List.getElem?_append_right (Nat.le_refl _), Nat.sub_self]
  rfl
theorem u_neg {i : Int} (k : Φ (.int (-i)) μ) : wUn X (unaryOp .USub) (.int i) μ Φ := fun F H u hs r Q kt pins s σ uu I rv => by
  cases r
  exact un_neg pins s σ H _ uu Q I rv ⟨i, rfl, kt.now k hs (.int _)⟩
theorem ix_ptrN {q : Addr} {ds l : List D} (m : Nat) (hm : μ[m]? = some (q, .lst ds)) (hd : ds = l ++ [d]) (k : Φ d μ) : wIx X (.ptr q) (.int (-1)) μ Φ := wix_of ix_list fun F H x y hs r1 r2 Q kt => by
  subst hd
  cases r2
  cases r1
  obtain ⟨xs, g, r⟩ := hs.lst hm
  have hsp : ∀ {xs : List V} {l : List D} {d : D}, Reps X.K F xs (l ++ [d]) → ∃ ys v, xs = ys ++ [v] ∧ Rep X.K F v d := fun {xs l d} r => by
    induction l generalizing xs with
    | nil =>
      cases r with
      | cons r rr => cases rr; exact ⟨[], _, rfl, r⟩
    | cons a l ih =>
      cases r with
      | cons r rr =>
        obtain ⟨ys, v, h1, h2⟩ := ih rr
        exact ⟨_ :: ys, v, by rw [h1]; rfl, h2⟩
  obtain ⟨ys, v, rfl, rv⟩ := hsp r
  exact ⟨_, _, _, v, rfl, rfl, Evl.sq_of g, atI_last, kt.now k hs rv⟩
end
/-! pairs sorted -/
abbrev natP (p : Nat × Nat) : D := .tup [.int p.1, .int p.2]
def leP (a b : Nat × Nat) : Prop := a.1 < b.1 ∨ (a.1 = b.1 ∧ a.2 ≤ b.2)
def pairV (H : Hp) : V → Int × Int
  | .ref t => match H t with
    | some (.tup [.int i, .int j]) => (i, j)
    | _ => (0, 0)
  | _ => (0, 0)
section
variable {X : Cy} {μ : Mu} {Φ : D → Mu → Prop} {d : D}
theorem c_sortedP {ps : List (Nat × Nat)} (hd : d = .lst (ps.map natP)) (k : ∀ ps' : List (Nat × Nat), ps'.Perm ps → ps'.Pairwise leP → Φ (.lst (ps'.map natP)) μ) : wCl X (.builtin "sorted") [d] μ Φ :=
  wcl_of cr_sortedPO fun F H vs hs r1 Q kt => by
  subst hd
  cases r1 with
  | cons r rr =>
    cases rr
    cases r with
    | lst g r =>
      rename_i a xs
      have at_ : ∀ {xs : List V} {ps : List (Nat × Nat)}, Reps X.K F xs (ps.map natP) → (∀ x ∈ xs, ∃ (t : Addr) (i j : Nat), x = .ref t ∧ F t = some (.tup [.int i, .int j])) ∧ xs.map (fun x => ((pairV H x).1.toNat, (pairV H x).2.toNat)) = ps := fun {xs ps} r => by
        induction ps generalizing xs with
        | nil => cases r; exact ⟨fun x hx => (nomatch hx), rfl⟩
        | cons p ps ih =>
          cases r with
          | cons r rr =>
            obtain ⟨h1, h2⟩ := ih rr
            cases r with
            | tup g q =>
              cases q with
              | cons q1 q =>
                cases q with
                | cons q2 q =>
                  cases q
                  cases q1
                  cases q2
                  refine ⟨fun x hx => ?_, ?_⟩
                  · rcases List.mem_cons.mp hx with rfl | hx
                    · exact ⟨_, _, _, rfl, g⟩
                    · exact h1 x hx
                  · rw [List.map_cons, h2]
                    congr 1
                    simp only [pairV, hs.ex _ _ g]
                    exact Prod.ext (by simp) (by simp)
      obtain ⟨h1, h2⟩ := at_ r
      have hat : ∀ x ∈ xs, ∃ (t : Addr) (i j : Nat), x = .ref t ∧ F t = some (.tup [.int i, .int j]) ∧ pairV H x = ((i : Int), (j : Int)) := fun x hx => by
        obtain ⟨t, i, j, rfl, ht⟩ := h1 x hx
        exact ⟨t, i, j, rfl, ht, by simp only [pairV, hs.ex _ _ ht]⟩
      refine ⟨a, xs, pairV H, rfl, Evl.sq_of (hs.ex _ _ g), fun x hx => ?_, fun ys p hsr hst hp => ?_⟩
      · obtain ⟨t, i, j, rfl, ht, e⟩ := hat x hx
        exact ⟨t, rfl, by rw [e]; exact hs.ex _ _ ht⟩
      · obtain ⟨g1, g2⟩ := hs.laid (u := .lst ys) hp
        have hys : ∀ y ∈ ys, y ∈ xs := fun y hy => hst.perm.mem_iff.mp hy
        have rys : ∀ ys : List V, (∀ y ∈ ys, y ∈ xs) → Reps X.K F ys ((ys.map fun x => ((pairV H x).1.toNat, (pairV H x).2.toNat)).map natP) := fun ys hys => by
          induction ys with
          | nil => exact .nil
          | cons y ys ih =>
            obtain ⟨t, i, j, rfl, ht, e⟩ := hat y (hys y List.mem_cons_self)
            rw [List.map_cons, List.map_cons]
            refine .cons ?_ (ih fun z hz => hys z (List.mem_cons_of_mem _ hz))
            rw [e]
            exact .tup ht (.cons (.int _) (.cons (.int _) .nil))
        refine kt _ _ _ _ _ (k (ys.map fun x => ((pairV H x).1.toNat, (pairV H x).2.toNat)) (by rw [← h2]; exact hst.perm.map _) ?_) g2 g1 (.lst upd_same ((rys ys hys).mono g2))
        rw [List.pairwise_map]
        refine List.Pairwise.imp_of_mem (fun {x y} hx hy h => ?_) hsr
        obtain ⟨t, i, j, rfl, ht, e1⟩ := hat x (hys x hx)
        obtain ⟨t', i', j', rfl, ht', e2⟩ := hat y (hys y hy)
        have h := SrtO.lexB_no.mp h
        rw [e1, e2] at h
        rw [e1, e2]
        show (i : Int).toNat < (i' : Int).toNat ∨ _
        simp only [Int.toNat_natCast]
        omega
end
theorem leP_uniq : ∀ (l l' : List (Nat × Nat)), l.Perm l' → l.Pairwise leP → l'.Pairwise leP → l = l'
  | [], l', h, _, _ => (List.Perm.eq_nil h.symm).symm
  | a :: l, [], h, _, _ => absurd h.length_eq (by simp)
  | a :: l, b :: l', h, h1, h2 => by
    have hab : leP a b := by
      rcases List.mem_cons.mp (h.mem_iff.mpr (List.mem_cons_self (a := b) (l := l'))) with e | e
      · rw [e]; exact .inr ⟨rfl, Nat.le_refl _⟩
      · exact (List.pairwise_cons.mp h1).1 b e
    have hba : leP b a := by
      rcases List.mem_cons.mp (h.mem_iff.mp (List.mem_cons_self (a := a) (l := l))) with e | e
      · rw [e]; exact .inr ⟨rfl, Nat.le_refl _⟩
      · exact (List.pairwise_cons.mp h2).1 a e
    have e : a = b := by unfold leP at hab hba; exact Prod.ext (by omega) (by omega)
    subst e
    rw [leP_uniq l l' h.cons_inv (List.pairwise_cons.mp h1).2 (List.pairwise_cons.mp h2).2]
end Oc

/-! Own layer: cells of which a word is known, loops and joins that name the slots they change alone, maps and filters. -/
namespace Oc
open PySem PySem.Spec L2
open Evl (Ex)
/-- a cell's word changes, its object stays -/
theorem Hs.turn {K : KF} {F H : Hp} {μ : Mu} (h : Hs K F μ H) {i : Nat} {p : Addr} {o o' : MO} (e : μ[i]? = some (p, o)) (r : ∀ u, RepO K F o u → RepO K F o' u) : Hs K F (μ.set i (p, o')) H := by
  obtain ⟨h1, u, h2, h3⟩ := h.at_ e
  have hw := h.write e (r u h3)
  have hH : upd H p u = H := by
    funext b
    unfold upd
    split
    · rename_i hb; rw [hb, h2]
    · rfl
  rwa [hH] at hw
section
variable {X : Cy} {e : Expr} {sts : List Stmt} {ρ : Rho} {μ : Mu} {Φ : D → Mu → Prop} {E : En}
theorem Hs.la {K : KF} {F H : Hp} {μ : Mu} (h : Hs K F μ H) {i : Nat} {p : Addr} {P : List D → Prop} (e : μ[i]? = some (p, .la P)) : ∃ ds, P ds ∧ Hs K F (μ.set i (p, .lst ds)) H := by
  obtain ⟨h1, u, h2, h3⟩ := h.at_ e
  cases h3 with
  | la hp r =>
    rename_i ds xs
    have hw := h.write e (u := .lst xs) (.lst r)
    have hH : upd H p (.lst xs) = H := by
      funext b
      unfold upd
      split
      · rename_i hb; rw [hb, h2]
      · rfl
    rw [hH] at hw
    exact ⟨ds, hp, hw⟩
theorem Hs.ka {K : KF} {F H : Hp} {μ : Mu} (h : Hs K F μ H) {i : Nat} {p : Addr} {P : List (Key × D) → Prop} (e : μ[i]? = some (p, .ka P)) : ∃ ds, P ds ∧ Hs K F (μ.set i (p, .dk ds)) H := by
  obtain ⟨h1, u, h2, h3⟩ := h.at_ e
  cases h3 with
  | ka hp r =>
    rename_i ds xs
    have hw := h.write e (u := .dK xs) (.dk r)
    have hH : upd H p (.dK xs) = H := by
      funext b
      unfold upd
      split
      · rename_i hb; rw [hb, h2]
      · rfl
    rw [hH] at hw
    exact ⟨ds, hp, hw⟩
theorem wSs_open {i : Nat} {q : Addr} {P : List D → Prop} (hi : μ[i]? = some (q, .la P)) (h : ∀ ds, P ds → wSs X sts ρ (μ.set i (q, .lst ds)) E) : wSs X sts ρ μ E := fun F σ H hs sl D kt => by
  obtain ⟨ds, hp, hs'⟩ := hs.la hi
  exact h ds hp F σ H hs' sl D kt
theorem wSs_openK {i : Nat} {q : Addr} {P : List (Key × D) → Prop} (hi : μ[i]? = some (q, .ka P)) (h : ∀ ds, P ds → wSs X sts ρ (μ.set i (q, .dk ds)) E) : wSs X sts ρ μ E := fun F σ H hs sl D kt => by
  obtain ⟨ds, hp, hs'⟩ := hs.ka hi
  exact h ds hp F σ H hs' sl D kt
theorem w_close (h : wE X e ρ μ fun d μ1 => ∃ (i : Nat) (q : Addr) (ds : List D) (P : List D → Prop), μ1[i]? = some (q, .lst ds) ∧ P ds ∧ Φ d (μ1.set i (q, .la P))) : wE X e ρ μ Φ := fun F σ H hs sl Q kt =>
  h F σ H hs sl Q fun v F1 H1 d μ1 ⟨i, q, ds, P, hi, hp, z⟩ e1 hs1 r => kt v F1 H1 d _ z e1 (hs1.turn hi fun u ru => by cases ru with | lst r => exact .la hp r) r
theorem w_closeK (h : wE X e ρ μ fun d μ1 => ∃ (i : Nat) (q : Addr) (ds : List (Key × D)) (P : List (Key × D) → Prop), μ1[i]? = some (q, .dk ds) ∧ P ds ∧ Φ d (μ1.set i (q, .ka P))) : wE X e ρ μ Φ := fun F σ H hs sl Q kt =>
  h F σ H hs sl Q fun v F1 H1 d μ1 ⟨i, q, ds, P, hi, hp, z⟩ e1 hs1 r => kt v F1 H1 d _ z e1 (hs1.turn hi fun u ru => by cases ru with | dk r => exact .ka hp r) r
theorem wSs_close {i : Nat} {q : Addr} {ds : List D} (P : List D → Prop) (hi : μ[i]? = some (q, .lst ds)) (hp : P ds) (h : wSs X sts ρ (μ.set i (q, .la P)) E) : wSs X sts ρ μ E := fun F σ H hs sl D kt =>
  h F σ H (hs.turn hi fun u ru => by cases ru with | lst r => exact .la hp r) sl D kt
theorem wSs_closeK {i : Nat} {q : Addr} {ds : List (Key × D)} (P : List (Key × D) → Prop) (hi : μ[i]? = some (q, .dk ds)) (hp : P ds) (h : wSs X sts ρ (μ.set i (q, .ka P)) E) : wSs X sts ρ μ E := fun F σ H hs sl D kt =>
  h F σ H (hs.turn hi fun u ru => by cases ru with | dk r => exact .ka hp r) sl D kt
/-- a weaker word of a cell -/
theorem wSs_weak {i : Nat} {q : Addr} {P P' : List D → Prop} (hi : μ[i]? = some (q, .la P)) (hp : ∀ ds, P ds → P' ds) (h : wSs X sts ρ (μ.set i (q, .la P')) E) : wSs X sts ρ μ E := fun F σ H hs sl D kt =>
  h F σ H (hs.turn hi fun u ru => by cases ru with | la p r => exact .la (hp _ p) r) sl D kt
end
/-! slots -/
def putR (ρ : Rho) : List Nat → List (Option D) → Rho
  | j :: js, v :: vs => putR (ρ.set j v) js vs
  | _, _ => ρ
def getR (ρ : Rho) (js : List Nat) : List (Option D) := js.map fun j => ρ.getD j none
theorem put_get : ∀ (js : List Nat) (ρ : Rho), putR ρ js (getR ρ js) = ρ
  | [], ρ => rfl
  | j :: js, ρ => by
    have e : ρ.set j (ρ.getD j none) = ρ := by
      refine List.ext_getElem? fun i => ?_
      by_cases hi : j = i
      · subst hi
        by_cases hl : j < ρ.length
        · rw [List.getElem?_set_self hl, List.getD_eq_getElem?_getD, List.getElem?_eq_getElem hl]
          rfl
        · rw [List.getElem?_eq_none (by rw [List.length_set]; omega), List.getElem?_eq_none (by omega)]
      · rw [List.getElem?_set_ne hi]
    show putR (ρ.set j (ρ.getD j none)) js (getR ρ js) = ρ
    rw [e]
    exact put_get js ρ
section
variable {X : Cy} {a b c e : Expr} {st : Stmt} {sts : List Stmt} {ρ : Rho} {μ : Mu} {Φ : D → Mu → Prop} {E : En} {pos p : Pos}
def Turn (ρ : Rho) (js : List Nat) (I : List (Option D) → Mu → Prop) (ρ' : Rho) (μ' : Mu) : Prop := ∃ vs, ρ' = putR ρ js vs ∧ I vs μ'
theorem w_forV {tg iter : Expr} {body : List Stmt} (js : List Nat) (h : wI X tg iter ρ μ fun its μ1 => ∃ (n : Nat) (Iv : Nat → List (Option D) → Mu → Prop), its.length = n ∧ Iv 0 (getR ρ js) μ1 ∧
      (∀ i x vs μ', its[i]? = some x → Iv i vs μ' → wG X tg x (putR ρ js vs) μ' fun ρ2 μ2 => wSs X body ρ2 μ2 { nx := Turn ρ js (Iv (i + 1)), rt := E.rt, bk := E.nx, ct := Turn ρ js (Iv (i + 1)) }) ∧ (∀ vs μ', Iv n vs μ' → E.nx (putR ρ js vs) μ'))
    (hp : PassesOwn (model X.prog X.w) X.A X.env X.xe) (hc : X.calm = true) (hs : ∀ x, foldedSetIterable iter X.env x = pure x := by intro _; rfl) : wS X (.For tg iter body [] pos) ρ μ E :=
  w_for (fun F σ H hh sl R kt => h F σ H hh sl R fun J its F1 μ1 H1 ⟨n, Iv, hn, h0, ht, hd⟩ e1 hs1 wk => kt J its F1 μ1 H1 ⟨fun i ρ' μ' => Turn ρ js (Iv i) ρ' μ', ⟨_, (put_get js ρ).symm, h0⟩, fun i x ρ' μ' hx ⟨vs, hv, iv⟩ => by subst hv; exact ht i x vs μ' hx iv, fun ρ' μ' ⟨vs, hv, iv⟩ => by subst hv; subst hn; exact hd vs μ' iv⟩ e1 hs1 wk) hp hc hs
theorem w_forPV {tg iter : Expr} {body : List Stmt} (js : List Nat) (h : wIP X tg iter ρ μ fun its P μ1 => ∃ (n : Nat) (Iv : Nat → List (Option D) → Mu → Prop), its.length = n ∧ Iv 0 (getR ρ js) μ1 ∧ (∀ i vs μ', Iv i vs μ' → P μ') ∧
      (∀ i x vs μ', its[i]? = some x → Iv i vs μ' → wG X tg x (putR ρ js vs) μ' fun ρ2 μ2 => wSs X body ρ2 μ2 { nx := Turn ρ js (Iv (i + 1)), rt := E.rt, bk := E.nx, ct := Turn ρ js (Iv (i + 1)) }) ∧ (∀ vs μ', Iv n vs μ' → E.nx (putR ρ js vs) μ'))
    (hp : PassesOwn (model X.prog X.w) X.A X.env X.xe) (hc : X.calm = true) (hs : ∀ x, foldedSetIterable iter X.env x = pure x := by intro _; rfl) : wS X (.For tg iter body [] pos) ρ μ E :=
  w_forP (fun F σ H hh sl R kt => h F σ H hh sl R fun J its P F1 μ1 H1 ⟨n, Iv, hn, h0, hP, ht, hd⟩ e1 hs1 wk => kt J its P F1 μ1 H1 ⟨fun i ρ' μ' => Turn ρ js (Iv i) ρ' μ', ⟨_, (put_get js ρ).symm, h0⟩, fun i ρ' μ' ⟨vs, _, iv⟩ => hP i vs μ' iv, fun i x ρ' μ' hx ⟨vs, hv, iv⟩ => by subst hv; exact ht i x vs μ' hx iv, fun ρ' μ' ⟨vs, hv, iv⟩ => by subst hv; subst hn; exact hd vs μ' iv⟩ e1 hs1 wk) hp hc hs
theorem w_whileV {body : List Stmt} (js : List Nat) (Iv : Nat → List (Option D) → Mu → Prop) (m0 : Nat) (h0 : Iv m0 (getR ρ js) μ)
    (ht : ∀ m vs μ', Iv m vs μ' → ∀ ρ', ρ' = putR ρ js vs → wT X c ρ' μ' fun k μ1 => (k = true → wSs X body ρ' μ1 { nx := fun ρ2 μ2 => ∃ vs m', ρ2 = putR ρ js vs ∧ m' < m ∧ Iv m' vs μ2, rt := E.rt, bk := E.nx, ct := fun ρ2 μ2 => ∃ vs m', ρ2 = putR ρ js vs ∧ m' < m ∧ Iv m' vs μ2 }) ∧ (k = false → E.nx ρ' μ1))
    (hp : PassesOwn (model X.prog X.w) X.A X.env X.xe) : wS X (.While c body [] pos) ρ μ E := by
  refine w_while (fun m ρ' μ' => Turn ρ js (Iv m) ρ' μ') m0 ⟨_, (put_get js ρ).symm, h0⟩ (fun m ρ' μ' ⟨vs, hv, iv⟩ => ?_) hp
  subst hv
  refine wt_mono (ht m vs μ' iv _ rfl) fun k μ1 q => ⟨fun hk => ?_, q.2⟩
  intro F σ H hs sl D kt
  exact q.1 hk F σ H hs sl D ⟨fun F1 H1 σ1 ρ1 μ1 ⟨vs', m', e1, h1, h2⟩ => kt.nx F1 H1 σ1 ρ1 μ1 ⟨m', h1, vs', e1, h2⟩, kt.rt, kt.bk, fun F1 H1 σ1 ρ1 μ1 ⟨vs', m', e1, h1, h2⟩ => kt.ct F1 H1 σ1 ρ1 μ1 ⟨m', h1, vs', e1, h2⟩⟩
/-- the slots written out -/
theorem wSs_rho {ρ' : Rho} (e : ρ = ρ') (h : wSs X sts ρ' μ E) : wSs X sts ρ μ E := e ▸ h
theorem wG_rho {tg : Expr} {d : D} {ΦS : Rho → Mu → Prop} {ρ' : Rho} (e : ρ = ρ') (h : wG X tg d ρ' μ ΦS) : wG X tg d ρ μ ΦS := e ▸ h
theorem w_cutV (js : List Nat) (M : List (Option D) → Mu → Prop) (h : wS X st ρ μ { E with nx := Turn ρ js M }) (k : ∀ vs μ', M vs μ' → wSs X sts (putR ρ js vs) μ' E) : wSs X (st :: sts) ρ μ E :=
  w_cut (Turn ρ js M) h fun ρ' μ' ⟨vs, hv, m⟩ => by subst hv; exact k vs μ' m
end
section
variable {X : Cy} {e : Expr} {st : Stmt} {ρ : Rho} {μ : Mu} {Φ : D → Mu → Prop} {E : En}
/-- a list made here, the first cell, stands still behind e -/
theorem w_fz0 (h : wE X e ρ μ fun d μ1 => ∃ p ds μ2, d = .ptr p ∧ μ1 = (p, .lst ds) :: μ2 ∧ Φ (.lst ds) μ2) : wE X e ρ μ Φ := w_fz (w_mono h fun d μ1 ⟨p, ds, μ2, h1, h2, q⟩ => ⟨0, p, ds, h1, by rw [h2]; rfl, by rw [h2]; exact q⟩)
/-- the first cell is needed no more behind e -/
theorem w_dr0 (h : wE X e ρ μ fun d μ1 => ∃ x μ2, μ1 = x :: μ2 ∧ Φ d μ2) : wE X e ρ μ Φ := w_dr (w_mono h fun d μ1 ⟨x, μ2, h1, q⟩ => ⟨μ2, by rw [h1]; exact List.sublist_cons_self _ _, q⟩)
theorem w_never (h : False) : wS X st ρ μ E := h.elim
end
section
variable {X : Cy} {es : List Expr} {ρ : Rho} {μ : Mu} {ΦS : Rho → Mu → Prop} {pos : Pos}
theorem wg_lst {n : Nat} {ds : List D} (hc : X.calm = true) (hl : ds.length = es.length) (h : wGs X es ds ρ μ ΦS) (hn : (assignEach es X.env).length = es.length := by rfl) (hst : (assignEach es X.env).findIdx? (·.1) = none := by rfl) : wG X (.Tuple es n pos) (.lst ds) ρ μ ΦS := fun F σ H v hs sl r Q kt => by
  cases r with
  | lst h1 h2 => exact sg_of (pg_lst hc pgs_s hn hst) ⟨_, _, rfl, Evl.sq_of (hs.ex _ _ h1), h2.length.trans hl, h F σ H _ hs sl h2 Q kt⟩
end
/-! numbers walked -/
abbrev natsD (n : Nat) : List D := (List.range n).map fun i : Nat => D.int i
theorem nats_get {n i : Nat} {d : D} (h : (natsD n)[i]? = some d) : i < n ∧ d = .int i := by
  unfold natsD at h
  rw [List.getElem?_map] at h
  by_cases hi : i < n
  · rw [List.getElem?_range hi] at h
    cases h
    exact ⟨hi, rfl⟩
  · rw [List.getElem?_eq_none (by rw [List.length_range]; omega)] at h
    cases h
theorem nats_len {n : Nat} : (natsD n).length = n := by unfold natsD; rw [List.length_map, List.length_range]
theorem rng_nats (n : Nat) : rngD 0 n = natsD n := by
  unfold rngD natsD
  exact List.map_congr_left fun i _ => by rw [Int.zero_add]
theorem natCast_toNat (n : Nat) : ((n : Nat) : Int).toNat = n := Int.toNat_natCast n
section
variable {X : Cy} {a b c e : Expr} {ρ : Rho} {μ : Mu} {pos p : Pos}
theorem wi_rngN {tg : Expr} {ΦI : List D → Mu → Prop} (hm : X.mg "range" = none) (h : wE X a ρ μ fun d μ1 => ∃ n : Nat, d = .int n ∧ n ≤ 100000000 ∧ ΦI (natsD n) μ1) (hg : Gl X "range" := by rfl) (hs : starEach [a] X.env = [(false, eval a X.env)] := by rfl) : wI X tg (.Call (.Name "range" p) [a] [] pos) ρ μ ΦI :=
  wi_rng1 hm (w_mono h fun d μ' ⟨n, hd, hn, q⟩ => ⟨n, hd, by omega, by rw [Int.toNat_natCast, rng_nats]; exact q⟩) hg hs
theorem wi_rngN2 {tg : Expr} {ΦI : List D → Mu → Prop} (hm : X.mg "range" = none) (h : wE X a ρ μ fun d μ1 => wE X b ρ μ1 fun d' μ2 => ∃ m n : Nat, d = .int m ∧ d' = .int n ∧ (m ≤ 100000000 ∧ n ≤ 100000000) ∧ ΦI ((List.range (n - m)).map fun i : Nat => D.int ((m + i : Nat) : Int)) μ2) (hg : Gl X "range" := by rfl)
    (hs : starEach [a, b] X.env = [(false, eval a X.env), (false, eval b X.env)] := by rfl) (hs2 : starEach [b] X.env = [(false, eval b X.env)] := by rfl) : wI X tg (.Call (.Name "range" p) [a, b] [] pos) ρ μ ΦI :=
  wi_rng2 hm (w_mono h fun d μ' q => w_mono q fun d' μ2 ⟨m, n, hd, hd', hn, q⟩ => ⟨m, n, hd, hd', by omega, by
    have e : rngD (m : Int) ((n : Int) - (m : Int)).toNat = (List.range (n - m)).map fun i : Nat => D.int ((m + i : Nat) : Int) := by
      unfold rngD
      rw [show ((n : Int) - (m : Int)).toNat = n - m by omega]
      exact List.map_congr_left fun i _ => by rw [Int.natCast_add]
    rw [e]
    exact q⟩) hg hs hs2
end
theorem nats2_get {m n i : Nat} {d : D} (h : ((List.range (n - m)).map fun i : Nat => D.int ((m + i : Nat) : Int))[i]? = some d) : m + i < n ∧ d = .int ((m + i : Nat) : Int) := by
  rw [List.getElem?_map] at h
  by_cases hi : i < n - m
  · rw [List.getElem?_range hi] at h
    cases h
    exact ⟨by omega, rfl⟩
  · rw [List.getElem?_eq_none (by rw [List.length_range]; omega)] at h
    cases h
theorem nats2_len {m n : Nat} : ((List.range (n - m)).map fun i : Nat => D.int ((m + i : Nat) : Int)).length = n - m := by rw [List.length_map, List.length_range]
theorem range_get {n i x : Nat} (h : (List.range n)[i]? = some x) : i < n ∧ x = i := by
  by_cases hi : i < n
  · rw [List.getElem?_range hi] at h
    cases h
    exact ⟨hi, rfl⟩
  · rw [List.getElem?_eq_none (by rw [List.length_range]; omega)] at h
    cases h
theorem map_get' {α : Type} {f : α → D} {l : List α} {i : Nat} {y : D} (h : (l.map f)[i]? = some y) : ∃ x, l[i]? = some x ∧ y = f x := by
  rw [List.getElem?_map] at h
  obtain ⟨x, h1, h2⟩ := Option.map_eq_some_iff.mp h
  exact ⟨x, h1, h2.symm⟩
theorem enum_get' {α : Type} {f : α → D} {l : List α} {i : Nat} {y : D} (h : (enumD (l.map f))[i]? = some y) : ∃ x, l[i]? = some x ∧ y = .tup [.int i, f x] := by
  obtain ⟨x, h1, h2⟩ := enumD_get h
  obtain ⟨z, h3, rfl⟩ := map_get' h1
  exact ⟨z, h3, h2⟩
theorem map_at {α : Type} {f : α → D} {l : List α} {i : Nat} {x : α} (h : l[i]? = some x) : (l.map f)[i]? = some (f x) := by rw [List.getElem?_map, h]; rfl
theorem lt_of_get {α : Type} {l : List α} {i : Nat} {x : α} (h : l[i]? = some x) : i < l.length := (List.getElem?_eq_some_iff.mp h).1
theorem get_here {α : Type} {l : List α} {x : α} : (x :: l)[0]? = some x := rfl
theorem get_cons {α : Type} {l : List α} {i : Nat} {x y : α} (h : l[i]? = some x) : (y :: l)[i + 1]? = some x := h
theorem get_set {α : Type} {l : List α} {i : Nat} {x y : α} (h : l[i]? = some x) : (l.set i y)[i]? = some y := List.getElem?_set_self (lt_of_get h)
theorem set_same {α : Type} : ∀ {l : List α} {i : Nat} {x : α}, l[i]? = some x → l.set i x = l
  | [], _, _, h => by simp at h
  | y :: l, 0, x, h => by simp at h; subst h; rfl
  | y :: l, i + 1, x, h => by rw [List.set_cons_succ, set_same (by simpa using h)]
section
variable {X : Cy} {μ : Mu} {Φ : D → Mu → Prop}
theorem ix_litN (l : List Nat) {r : Nat} (h1 : r < l.length) (k : ∀ x, x ∈ l → Φ (.int (x : Nat)) μ) : wIx X (.lst (l.map fun a : Nat => D.int a)) (.int (r : Nat)) μ Φ :=
  ix_lstD r rfl (by rw [List.getElem?_map, List.getElem?_eq_getElem h1]; rfl) (k _ (List.getElem_mem h1))
theorem ix_litNT (l : List Nat) {r : Nat} (h1 : r < l.length) (k : ∀ x, x ∈ l → Φ (.int (x : Nat)) μ) : wIx X (.tup (l.map fun a : Nat => D.int a)) (.int (r : Nat)) μ Φ :=
  ix_tupD r rfl (by rw [List.getElem?_map, List.getElem?_eq_getElem h1]; rfl) (k _ (List.getElem_mem h1))
/-- some item of a list -/
theorem ix_some {l : List D} {r : Nat} (P : D → Prop) (h1 : r < l.length) (hP : ∀ d ∈ l, P d) (k : ∀ d, P d → Φ d μ) : wIx X (.lst l) (.int (r : Nat)) μ Φ :=
  ix_lstD r rfl (List.getElem?_eq_getElem h1) (k _ (hP _ (List.getElem_mem h1)))
theorem ix_someT {l : List D} {r : Nat} (P : D → Prop) (h1 : r < l.length) (hP : ∀ d ∈ l, P d) (k : ∀ d, P d → Φ d μ) : wIx X (.tup l) (.int (r : Nat)) μ Φ :=
  ix_tupD r rfl (List.getElem?_eq_getElem h1) (k _ (hP _ (List.getElem_mem h1)))
end
theorem absN (x : Int) : 0 ≤ (if x < 0 then -x else x) := by split <;> omega
/-! pens -/
def penL3 (ns : List Int) (a l : Int) : List D := [.scr (ns.map D.int), .int a, .int l]
def penP (ns : List Int) (n : Nat) : List D → Prop := fun xs => ∃ a l : Int, xs = penL3 ns a l ∧ 0 ≤ a ∧ a ≤ n ∧ 0 ≤ l
abbrev penO (ns : List Int) (n : Nat) : MO := .la (penP ns n)
theorem penL3_1 {ns : List Int} {a l b : Int} : (penL3 ns a l).set 1 (.int b) = penL3 ns b l := rfl
theorem penL3_2 {ns : List Int} {a l b : Int} : (penL3 ns a l).set 2 (.int b) = penL3 ns a b := rfl
/-- a number is drawn -/
def S_draw : FS := fun ds μ Φ => ∃ (ns : List Int) (n : Nat) (q : Addr) (i : Nat) (many : Int), ds = [.ptr q, .int many] ∧ μ[i]? = some (q, penO ns n) ∧ n ≤ 1000000 ∧ (0 < many ∧ many < 1000000000) ∧
  ∀ (r : Nat) μ', (r : Int) < many → μ' = μ.set i (q, penO ns (n + 1)) → Φ (.int r) μ'
theorem mulBnd {x a : Int} (h0 : 0 ≤ x) (h1 : x < 2147483647) (h2 : 0 ≤ a) (h3 : a ≤ 1000100) : 0 ≤ x * a ∧ x * a ≤ 2147483647 * 1000100 :=
  ⟨Int.mul_nonneg h0 h2, Int.mul_le_mul (by omega) h3 h2 (by omega)⟩
/-! comprehensions without effects -/
section
variable {X : Cy} {elt tg : Expr} {ifs : List Expr} {scope : Scope} {t : Tg} {vs : List Nat} {ρ : Rho} {Φ : D → Mu → Prop} {its : List D} {μ1 : Mu}
abbrev LcQ (X : Cy) (elt : Expr) (ifs : List Expr) (scope : Scope) (t : Tg) (vs : List Nat) (ρ : Rho) (Φ : D → Mu → Prop) (its : List D) (μ1 : Mu) : Prop :=
  its.length ≤ 1000000 ∧ ∃ Iv : Nat → List D → Mu → Prop, Iv 0 [] μ1 ∧
    (∀ p i x acc μ2, its[i]? = some x → Iv i acc μ2 → ∃ ρ', t.put x (wipeR ρ vs) = some ρ' ∧ ∀ s H C cl fp, wTs (blkE X scope s H C cl fp) ifs ρ' ((p, .lst acc) :: μ2) fun k μ4 =>
      (k = true → ∀ s H C cl fp, wE (blkE X scope s H C cl fp) elt ρ' μ4 fun d μ5 => ∃ μ6, μ5 = (p, .lst acc) :: μ6 ∧ Iv (i + 1) (acc ++ [d]) μ6) ∧ (k = false → ∃ μ6, μ4 = (p, .lst acc) :: μ6 ∧ Iv (i + 1) acc μ6)) ∧
    (∀ p acc μ2, Iv its.length acc μ2 → Φ (.ptr p) ((p, .lst acc) :: μ2))
theorem lcW_of {iter : Expr} {μ : Mu} (h : wI X tg iter ρ μ fun its μ1 => LcQ X elt ifs scope t vs ρ Φ its μ1) : LcW X elt tg iter ifs scope t vs ρ μ Φ := h
theorem lcq_map {α : Type} (l : List α) (f : α → D) (g : α → D) (he : its = l.map f) (hl : l.length ≤ 1000000)
    (ht : ∀ (p : Addr) (i : Nat) (x : α), l[i]? = some x → ∃ ρ', t.put (f x) (wipeR ρ vs) = some ρ' ∧ ∀ s H C cl fp, wE (blkE X scope s H C cl fp) elt ρ' ((p, .lst ((l.take i).map g)) :: μ1) fun d μ5 => d = g x ∧ μ5 = (p, .lst ((l.take i).map g)) :: μ1)
    (hd : ∀ p, Φ (.ptr p) ((p, .lst (l.map g)) :: μ1)) : LcQ X elt [] scope t vs ρ Φ its μ1 := by
  subst he
  refine ⟨by rw [List.length_map]; exact hl, fun i acc μ2 => acc = (l.take i).map g ∧ μ2 = μ1, ⟨rfl, rfl⟩, ?_, ?_⟩
  · rintro p i x acc μ2 hx ⟨rfl, rfl⟩
    obtain ⟨y, hy, rfl⟩ := map_get' hx
    obtain ⟨ρ', h1, h2⟩ := ht p i y hy
    refine ⟨ρ', h1, fun _ _ _ _ _ => ⟨fun _ s H C cl fp => w_mono (h2 s H C cl fp) ?_, fun hb => (nomatch hb)⟩⟩
    rintro d μ5 ⟨rfl, rfl⟩
    exact ⟨_, rfl, by rw [filter_next hy, List.map_append]; rfl, rfl⟩
  · rintro p acc μ2 ⟨rfl, rfl⟩
    rw [List.length_map, List.take_of_length_le (Nat.le_refl _)]
    exact hd p
theorem lcq_filt {α : Type} {c : Expr} (l : List α) (f : α → D) (q : α → Bool) (g : α → D) (he : its = l.map f) (hl : l.length ≤ 1000000)
    (ht : ∀ (p : Addr) (i : Nat) (x : α), l[i]? = some x → ∃ ρ', t.put (f x) (wipeR ρ vs) = some ρ' ∧ (∀ s H C cl fp, wT (blkE X scope s H C cl fp) c ρ' ((p, .lst (((l.take i).filter q).map g)) :: μ1) fun k μ4 => k = q x ∧ μ4 = (p, .lst (((l.take i).filter q).map g)) :: μ1) ∧
      (q x = true → ∀ s H C cl fp, wE (blkE X scope s H C cl fp) elt ρ' ((p, .lst (((l.take i).filter q).map g)) :: μ1) fun d μ5 => d = g x ∧ μ5 = (p, .lst (((l.take i).filter q).map g)) :: μ1))
    (hd : ∀ p, Φ (.ptr p) ((p, .lst ((l.filter q).map g)) :: μ1)) : LcQ X elt [c] scope t vs ρ Φ its μ1 := by
  subst he
  refine ⟨by rw [List.length_map]; exact hl, fun i acc μ2 => acc = ((l.take i).filter q).map g ∧ μ2 = μ1, ⟨rfl, rfl⟩, ?_, ?_⟩
  · rintro p i x acc μ2 hx ⟨rfl, rfl⟩
    obtain ⟨y, hy, rfl⟩ := map_get' hx
    obtain ⟨ρ', h1, h2, h3⟩ := ht p i y hy
    refine ⟨ρ', h1, fun s H C cl fp => wt_mono (h2 s H C cl fp) ?_⟩
    rintro k μ4 ⟨rfl, rfl⟩
    refine ⟨fun hb s H C cl fp => w_mono (h3 hb s H C cl fp) ?_, fun hb => ⟨_, rfl, fm_no hy hb, rfl⟩⟩
    rintro d μ5 ⟨rfl, rfl⟩
    exact ⟨_, rfl, fm_yes hy hb, rfl⟩
  · rintro p acc μ2 ⟨rfl, rfl⟩
    rw [List.length_map, List.take_of_length_le (Nat.le_refl _)]
    exact hd p
end
end Oc

/-! Own layer: lists of lists that change, first finds. -/
namespace Oc
open PySem PySem.Spec L2
open Evl (Ex)
def cellsM (L : List (Addr × List D)) : Mu := L.map fun e => (e.1, MO.lst e.2)
def ptrsD (L : List (Addr × List D)) : List D := L.map fun e => .ptr e.1
theorem cells_at {L : List (Addr × List D)} {i : Nat} {a : Addr} {r : List D} (h : L[i]? = some (a, r)) (μ : Mu) : (cellsM L ++ μ)[i]? = some (a, .lst r) := by
  unfold cellsM
  rw [List.getElem?_append_left (by rw [List.length_map]; exact lt_of_get h), List.getElem?_map, h]
  rfl
theorem cells_set {L : List (Addr × List D)} {i : Nat} {a : Addr} {r : List D} (h : L[i]? = some (a, r)) (r' : List D) (μ : Mu) : (cellsM L ++ μ).set i (a, .lst r') = cellsM (L.set i (a, r')) ++ μ := by
  unfold cellsM
  rw [List.set_append_left _ _ (by rw [List.length_map]; exact lt_of_get h), List.map_set]
theorem cells_set1 {L : List (Addr × List D)} {i : Nat} {a : Addr} {r : List D} (h : L[i]? = some (a, r)) {r' : List D} {μ : Mu} {x : Addr × MO} : (x :: (cellsM L ++ μ)).set (i + 1) (a, .lst r') = x :: (cellsM (L.set i (a, r')) ++ μ) := by rw [List.set_cons_succ, cells_set h]
theorem cells_set2 {L : List (Addr × List D)} {i : Nat} {a : Addr} {r : List D} (h : L[i]? = some (a, r)) {r' : List D} {μ : Mu} {x y : Addr × MO} : (x :: y :: (cellsM L ++ μ)).set (i + 2) (a, .lst r') = x :: y :: (cellsM (L.set i (a, r')) ++ μ) := by rw [List.set_cons_succ, List.set_cons_succ, cells_set h]
theorem get_app {A μ : Mu} {i : Nat} {x : Addr × MO} (h : μ[i]? = some x) : (A ++ μ)[A.length + i]? = some x := by rw [List.getElem?_append_right (Nat.le_add_right _ _), Nat.add_sub_cancel_left]; exact h
theorem set_app {A μ : Mu} {i : Nat} {x : Addr × MO} : (A ++ μ).set (A.length + i) x = A ++ μ.set i x := by rw [List.set_append_right _ _ (Nat.le_add_right _ _), Nat.add_sub_cancel_left]
theorem ptrs_at {L : List (Addr × List D)} {i : Nat} {a : Addr} {r : List D} (h : L[i]? = some (a, r)) : (ptrsD L)[i]? = some (.ptr a) := by
  unfold ptrsD
  rw [List.getElem?_map, h]
  rfl
theorem ptrs_set {L : List (Addr × List D)} {i : Nat} {a : Addr} {r : List D} (h : L[i]? = some (a, r)) (r' : List D) : ptrsD (L.set i (a, r')) = ptrsD L := by
  unfold ptrsD
  rw [List.map_set]
  refine List.ext_getElem? fun t => ?_
  by_cases ht : i = t
  · subst ht
    rw [List.getElem?_set_self (by rw [List.length_map]; exact lt_of_get h), List.getElem?_map, h]
    rfl
  · rw [List.getElem?_set_ne ht]
theorem get_of_lt {α : Type} {l : List α} {i : Nat} (h : i < l.length) : ∃ x, l[i]? = some x ∧ x ∈ l := ⟨l[i], List.getElem?_eq_getElem h, List.getElem_mem h⟩
theorem mem_of_set {α : Type} {l : List α} {i : Nat} {x y : α} (h : y ∈ l.set i x) : y ∈ l ∨ y = x := by
  obtain ⟨j, hj, e⟩ := List.mem_iff_getElem.mp h
  by_cases hij : i = j
  · subst hij
    rw [List.getElem_set_self] at e
    exact .inr e.symm
  · rw [List.getElem_set_ne hij] at e
    exact .inl (e ▸ List.getElem_mem _)
theorem mem_of_erase {α : Type} {l : List α} {i : Nat} {y : α} (h : y ∈ l.eraseIdx i) : y ∈ l := (List.eraseIdx_sublist l i).subset h
theorem map_eraseIdx {α β : Type} {f : α → β} : ∀ (l : List α) (i : Nat), (l.map f).eraseIdx i = (l.eraseIdx i).map f
  | [], _ => rfl
  | _ :: _, 0 => rfl
  | a :: l, i + 1 => by
    rw [List.map_cons, List.eraseIdx_cons_succ, List.eraseIdx_cons_succ, List.map_cons, map_eraseIdx l i]
section
variable {X : Cy} {elt tg : Expr} {scope : Scope} {t : Tg} {vs : List Nat} {ρ : Rho} {Φ : D → Mu → Prop} {its : List D} {μ1 : Mu}
/-- each element is a new list that may change -/
theorem lcq_cells {α : Type} (l : List α) (f : α → D) (w : α → List D) (he : its = l.map f) (hl : l.length ≤ 1000000)
    (ht : ∀ (p : Addr) (i : Nat) (x : α) (L : List (Addr × List D)), l[i]? = some x → ∃ ρ', t.put (f x) (wipeR ρ vs) = some ρ' ∧ ∀ s H C cl fp, wE (blkE X scope s H C cl fp) elt ρ' ((p, .lst (ptrsD L)) :: (cellsM L ++ μ1)) fun d μ5 => ∃ r, d = .ptr r ∧ μ5 = (r, .lst (w x)) :: (p, .lst (ptrsD L)) :: (cellsM L ++ μ1))
    (hd : ∀ p L, L.map (·.2) = l.map w → Φ (.ptr p) ((p, .lst (ptrsD L)) :: (cellsM L ++ μ1))) : LcQ X elt [] scope t vs ρ Φ its μ1 := by
  subst he
  refine ⟨by rw [List.length_map]; exact hl, fun i acc μ2 => ∃ L, L.map (·.2) = (l.take i).map w ∧ acc = ptrsD L ∧ μ2 = cellsM L ++ μ1, ⟨[], rfl, rfl, rfl⟩, ?_, ?_⟩
  · rintro p i x acc μ2 hx ⟨L, hL, rfl, rfl⟩
    obtain ⟨y, hy, rfl⟩ := map_get' hx
    obtain ⟨ρ', h1, h2⟩ := ht p i y L hy
    refine ⟨ρ', h1, fun _ _ _ _ _ => ⟨fun _ s H C cl fp => w_pm (w_mono (h2 s H C cl fp) ?_), fun hb => (nomatch hb)⟩⟩
    rintro d μ5 ⟨r, rfl, rfl⟩
    refine ⟨(p, .lst (ptrsD L)) :: (cellsM (L ++ [(r, w y)]) ++ μ1), ?_, _, rfl, L ++ [(r, w y)], ?_, ?_, rfl⟩
    · have e : cellsM (L ++ [(r, w y)]) ++ μ1 = cellsM L ++ (r, MO.lst (w y)) :: μ1 := by unfold cellsM; rw [List.map_append, List.append_assoc]; rfl
      rw [e]
      exact (List.Perm.cons _ List.perm_middle).trans (List.Perm.swap _ _ _)
    · rw [List.map_append, hL, filter_next hy, List.map_append]; rfl
    · unfold ptrsD; rw [List.map_append]; rfl
  · rintro p acc μ2 ⟨L, hL, rfl, rfl⟩
    rw [List.length_map, List.take_of_length_le (Nat.le_refl _)] at hL
    exact hd p L hL
end
section
variable {X : Cy} {μ : Mu} {Φ : D → Mu → Prop}
theorem o_addN {a b : Nat} (k : Φ (.int ((a + b : Nat) : Int)) μ) : wOp X (binaryOp .Add) (.int (a : Nat)) (.int (b : Nat)) μ Φ := o_add (by rw [Int.natCast_add] at k; exact k)
theorem o_mulN {a b : Nat} (hc : a < 2 ^ 64) (k : Φ (.int ((a * b : Nat) : Int)) μ) : wOp X (binaryOp .Mult) (.int (a : Nat)) (.int (b : Nat)) μ Φ := o_mul (.inl ⟨by omega, by omega⟩) (by rw [Int.natCast_mul] at k; exact k)
end
section
variable {X : Cy} {μ : Mu} {Φ : D → Mu → Prop}
theorem o_modN {a b : Nat} (hc : 0 < b) (k : Φ (.int ((a % b : Nat) : Int)) μ) : wOp X (binaryOp .Mod) (.int (a : Nat)) (.int (b : Nat)) μ Φ := o_mod (by omega) (by rw [Int.natCast_emod] at k; exact k)
theorem o_divN {a b : Nat} (hc : 0 < b ∧ b < 1073741824) (k : Φ (.int ((a / b : Nat) : Int)) μ) : wOp X (binaryOp .FloorDiv) (.int (a : Nat)) (.int (b : Nat)) μ Φ := o_div (by omega) (by rw [Int.natCast_ediv] at k; exact k)
end
theorem eqv_lnil (ds : List D) : PyData.eqv (D.lst ds).py (D.lst []).py = ds.isEmpty := by
  cases ds with
  | nil => simp only [D.py, D.pys, PyData.eqv, PyData.eqvAll]; rfl
  | cons a l => simp only [D.py, D.pys, PyData.eqv, PyData.eqvAll]; rfl
theorem eqv_tnil (ds : List D) : PyData.eqv (D.tup ds).py (D.tup []).py = ds.isEmpty := by
  cases ds with
  | nil => simp only [D.py, D.pys, PyData.eqv, PyData.eqvAll]; rfl
  | cons a l => simp only [D.py, D.pys, PyData.eqv, PyData.eqvAll]; rfl
theorem row_snoc {l : List Nat} {a : Nat} : D.tup (l.map (fun a : Nat => D.int a) ++ [.int a]) = .tup ((l ++ [a]).map fun a : Nat => D.int a) := by rw [List.map_append]; rfl
/-! first finds -/
theorem find_first {f : Nat → Bool} {n i : Nat} (hi : i < n) (h : ∀ j, j < i → f j = false) (hf : f i = true) : (List.range n).find? f = some i := by
  rw [List.find?_eq_some_iff_getElem]
  exact ⟨hf, i, by rw [List.length_range]; exact hi, by simp, fun j hj => by simp [h j hj]⟩
theorem find_none {f : Nat → Bool} {n : Nat} (h : ∀ j, j < n → f j = false) : (List.range n).find? f = none := by
  rw [List.find?_eq_none]
  intro x hx
  rw [h x (List.mem_range.mp hx)]
  exact Bool.false_ne_true
theorem all_next {P : Nat → Prop} {i : Nat} (h : ∀ j, j < i → P j) (h1 : P i) : ∀ j, j < i + 1 → P j := fun j hj => by
  by_cases e : j = i
  · subst e; exact h1
  · exact h j (by omega)
theorem no_lt {P : Nat → Prop} : ∀ j, j < 0 → P j := fun j h => absurd h (Nat.not_lt_zero _)
section
variable {X : Cy} {e : Expr} {sts : List Stmt} {ρ : Rho} {μ : Mu} {Φ : D → Mu → Prop} {E : En}
/-- a cell of lists stands still from now on, with the lists in it -/
theorem wSs_dropL {L : List (Addr × List D)} {μ' : Mu} (h : wSs X sts ρ μ' E) (hs : μ'.Sublist μ) : wSs X sts ρ μ E := wSs_sub hs h
end
/-- slices of maps -/
theorem cut_map_to {α : Type} {f : α → D} {l : List α} (n : Nat) : cutD (l.map f) none (some (n : Int)) = (l.take n).map f := by rw [cutD_to, List.map_take]
theorem cut_map_from {α : Type} {f : α → D} {l : List α} (n : Nat) : cutD (l.map f) (some (n : Int)) none = (l.drop n).map f := by rw [cutD_from, List.map_drop]
end Oc

/-! Own layer: dicts of pairs, the least and greatest of a tuple. -/
namespace Oc
open PySem PySem.Spec L2
open Evl (Ex)
open PyProof.Rows (IsTup IntsAre)
open PySem.W (AlikeAll min_tuple_data max_tuple_data minD_ints maxD_ints)
section
variable {X : Cy}
theorem pairsT_of {pins : List (Addr × Obj)} {σ : L2.St} {H : Hp} {s : Shared} (I : Inv X pins σ H s) : ∀ {ps : List Addr} {kvs : List (List Key × V)}, Paired (fun p kv => ∃ b, SqT X.K H p [V.ref b, kv.2] ∧ H b = some (.tup (kv.1.map kV))) ps kvs →
    ∃ prs : List (List Key × Addr × Value), KT H kvs prs ∧ prs.length = ps.length ∧ ∀ (j : Nat) (q : List Key × Addr × Value), prs[j]? = some q → ∃ b : Addr, ps[j]? = some b ∧ IsTup s.heap b #[.ref q.2.1, q.2.2] ∧ (tupleKind (mixKind X.prog X.w)).is s.heap q.1 q.2.1
  | _, _, .nil => ⟨[], .nil, rfl, fun j q e => by simp at e⟩
  | _, _, .cons (a := p) (b := kv) h t => by
    obtain ⟨prs, r, hl, hp⟩ := pairsT_of I t
    obtain ⟨b, h, hb⟩ := h
    obtain ⟨its, rv, ht, _⟩ := I.tuple h
    obtain ⟨u, y, ei, ru, ry⟩ := vals2 rv
    subst ei
    cases (show u = Value.ref b from ru)
    refine ⟨(kv.1, b, y) :: prs, .cons ⟨rfl, hb, ry⟩ r, by rw [List.length_cons, List.length_cons, hl], fun j q e => ?_⟩
    cases j with
    | zero =>
      have e' : (kv.1, b, y) = q := Option.some.inj e
      subst e'
      exact ⟨p, rfl, ht, key_of I.hok hb⟩
    | succ j =>
      obtain ⟨b', e1, e2, e3⟩ := hp j q (by simpa using e)
      exact ⟨b', by simpa using e1, e2, e3⟩
theorem kt_keys {H : Hp} : ∀ {kvs : List (List Key × V)} {prs : List (List Key × Addr × Value)}, KT H kvs prs → prs.map (·.1) = kvs.map (·.1)
  | _, _, .nil => rfl
  | _, _, .cons h t => by rw [List.map_cons, List.map_cons, kt_keys t, h.1]
/-- dict(xs) of a list of pairs (tuple, value), no key twice -/
theorem cr_dictT (hu : X.c.A.units + 64 < cLine) (hc : X.calm = true) : CallR X (.type "dict") (fun xs H Q => ∃ (a : Addr) (ps : List Addr) (kvs : List (List Key × V)), xs = [.ref a] ∧ SqL X.K H a (ps.map V.ref) ∧ Paired (fun p kv => ∃ b, SqT X.K H p [V.ref b, kv.2] ∧ H b = some (.tup (kv.1.map kV))) ps kvs ∧
    (kvs.map (·.1)).Nodup ∧ ∀ p, H p = none → Q (.ref p) (upd H p (.dT kvs))) := by
  intro pins s σ H xs us Q I r q
  obtain ⟨a, ps, kvs, ex, hq, hp, hn, q⟩ := q
  subst ex
  obtain ⟨u, eu, rx⟩ := vals1 r
  subst eu
  cases rx
  obtain ⟨its, rv, pl, hz⟩ := I.list hq
  have ei := refs_at rv
  subst ei
  rw [List.length_map] at hz
  obtain ⟨prs, rel, hl, hpr⟩ := pairsT_of I hp
  obtain ⟨o, n, ho, hc0, hd, hdat⟩ := pl
  have hnp : (prs.map (·.1)).Nodup := by rw [kt_keys rel]; exact hn
  refine call_dict_pairsH (knd := tupleKind (mixKind X.prog X.w)) (ps := prs) (PairArg.list a (ps.map Value.ref).toArray (fun j => ps.getD j 0) (prs.map fun q => (Value.ref q.2.1, q.2.2))) (I.ok.hd hc) (by show _ + 1 + 1 < cLine; omega) ⟨⟨o, n, ho, hc0, hd, hdat⟩, ?_⟩ ?_ ?_ (by rw [List.length_map, hl]; exact hz) fun h' tk hd' k => ?_
  · refine ⟨by simp [hl], fun j kk v hj => ?_⟩
    rw [List.getElem?_map] at hj
    obtain ⟨q', hq', e⟩ := Option.map_eq_some_iff.mp hj
    cases e
    obtain ⟨b, e1, e2, _⟩ := hpr j q' hq'
    show _ = some (Value.ref (ps.getD j 0)) ∧ PairAt s.heap (ps.getD j 0) _ _
    rw [List.getD_eq_getElem?_getD, e1]
    exact ⟨by simp [e1], .inl e2⟩
  · refine ⟨by rw [List.length_map], fun i key v hr => ?_⟩
    have hr' : (prs.map fun q => (Value.ref q.2.1, q.2.2))[i]? = some (key, v) := hr
    rw [List.getElem?_map] at hr'
    obtain ⟨q', hq', e⟩ := Option.map_eq_some_iff.mp hr'
    cases e
    exact ⟨q'.1, q'.2.1, hq', rfl⟩
  · intro h' hk x hx
    obtain ⟨j, hj, e⟩ := List.mem_iff_getElem.mp hx
    obtain ⟨b, _, _, e3⟩ := hpr j x (by rw [List.getElem?_eq_getElem hj, e])
    obtain ⟨o2, vs, n2, h1, h2, h3, h4⟩ := e3
    exact ⟨o2, vs, n2, hk _ _ (Nat.ne_of_lt (Heap.lt_size h1)) (fun z => nomatch z) h1, h2, h3, h4⟩
  · rw [storedAllH_nil_of_nodup prs hnp] at hd'
    have hm : (s.heap.objs.size == sysModules) = false := beq_eq_false_iff_ne.mpr (Nat.ne_of_gt I.big)
    have hlen : kvs.length ≤ sizeLine := by
      have : prs.length = kvs.length := by have := congrArg List.length (kt_keys rel); simpa using this
      omega
    obtain ⟨o', es, ep, g1, g2, g3, g4, _, g5⟩ := hd'
    have hf := I.hok.fresh (Nat.le_refl s.heap.objs.size)
    refine ⟨.ref s.heap.objs.size, upd H s.heap.objs.size (.dT kvs), I.laid (t' := tk) (fun b o e => k b o (fun z => nomatch z) e) (Nat.le_refl _) ⟨hlen, hm, prs, Paired.mapP rel fun p q z => ⟨z.1, ?_, z.2.2⟩, o', es, ep, g1, g2, g3, g4, g5⟩, rfl, q _ hf⟩
    rw [upd_ne (ne_of_none z.2.1 hf)]
    exact z.2.1
end
section
variable {X : Cy} {μ : Mu} {Φ : D → Mu → Prop} {d : D}
theorem rep_pairs {K : PySem.W.Frag} {F H : Hp} (ex : Ex F H) : ∀ {kds : List (List Key × D)} {xs : List V}, Reps K F xs (kds.map fun e => .tup [tkD e.1, e.2]) →
    ∃ (ps : List Addr) (kvs : List (List Key × V)), xs = ps.map V.ref ∧ Paired (fun p kv => ∃ b, SqT K H p [V.ref b, kv.2] ∧ H b = some (.tup (kv.1.map kV))) ps kvs ∧ kvs.map (·.1) = kds.map (·.1) ∧ RepK K F kds kvs
  | [], _, .nil => ⟨[], [], rfl, .nil, rfl, .nil⟩
  | e :: kds, _, .cons r rr => by
    obtain ⟨ps, kvs, h1, h2, h3, h4⟩ := rep_pairs ex rr
    cases r with
    | tup g q =>
      cases q with
      | cons q1 q =>
        cases q with
        | cons q2 q =>
          cases q
          obtain ⟨b, rfl, hb⟩ := rep_tk q1
          rename_i a v
          exact ⟨a :: ps, (e.1, v) :: kvs, by rw [h1]; rfl, .cons ⟨b, Evl.st_of (ex _ _ g), ex _ _ hb⟩ h2, by rw [List.map_cons, List.map_cons, h3], .cons ⟨rfl, q2⟩ h4⟩
theorem c_dictT {kds : List (List Key × D)} (hu : X.c.A.units + 64 < cLine) (hd : d = .lst (kds.map fun e => .tup [tkD e.1, e.2])) (hn : (kds.map (·.1)).Nodup) (k : ∀ p, Φ (.ptr p) ((p, .dt kds) :: μ)) (hc : X.calm = true := by rfl) : wCl X (.type "dict") [d] μ Φ :=
  wcl_of (cr_dictT hu hc) fun F H vs hs r1 Q kt => by
  subst hd
  cases r1 with
  | cons r rr =>
    cases rr
    cases r with
    | lst g r =>
      obtain ⟨ps, kvs, rfl, h2, h3, h4⟩ := rep_pairs hs.ex r
      exact ⟨_, ps, kvs, rfl, Evl.sq_of (hs.ex _ _ g), h2, by rw [h3]; exact hn, fun p hp => kt _ _ _ _ _ (k p) (Ex.refl _) (hs.cell hp (.dt h4)) (.ptr p)⟩
/-- a dict made here stands still behind e -/
theorem w_fzD0 {e : Expr} {ρ : Rho} (h : wE X e ρ μ fun d μ1 => ∃ p ds μ2, d = .ptr p ∧ μ1 = (p, .dt ds) :: μ2 ∧ Φ (.dct (ds.map (·.1)) (ds.map (·.2))) μ2) : wE X e ρ μ Φ := fun F σ H hs sl Q kt pins s I =>
  thn (h F σ H hs sl (fun v H1 => ∃ q kvs, v = .ref q ∧ H1 q = some (.dT kvs) ∧ ∀ od, Q v (upd H1 q (.frz od (.dT kvs)))) (fun v F1 H1 d μ1 ⟨q, ds, μ2, hd, hm, z⟩ e1 hs1 r1 => by
    subst hd
    subst hm
    cases r1
    obtain ⟨kvs, g, rk⟩ := hs1.dt (i := 0) rfl
    obtain ⟨hF, _⟩ := hs1.at_ (i := 0) rfl
    refine ⟨q, kvs, rfl, g, fun od => ?_⟩
    have hsub := hs1.sub (List.sublist_cons_self _ _)
    have hn : ∀ o, (q, o) ∉ μ2 := fun o z => by
      have nd := hs1.nd
      rw [List.map_cons, List.nodup_cons] at nd
      exact nd.1 (List.mem_map.mpr ⟨_, z, rfl⟩)
    have hs2 : Hs X.K F1 μ2 (upd H1 q (.frz od (.dT kvs))) := ⟨fun a o z => by
        rw [upd_ne (ne_of_none z hF)]
        exact hs1.ex a o z, hsub.nd, fun a o z => by
        obtain ⟨h1, u, h2, h3⟩ := hsub.mu a o z
        exact ⟨h1, u, by rw [upd_ne (fun e => by subst e; exact hn o z)]; exact h2, h3⟩, hs1.gr⟩
    obtain ⟨hs3, e3⟩ := hs2.still hF upd_same hn
    obtain ⟨k1, k2⟩ := repK_split rk
    exact kt _ _ _ _ _ z (e1.trans e3) hs3 (.dct upd_same k1 (k2.mono e3))) pins s I) fun u s2 ⟨v, H2, I2, rv, q, kvs, hv, hq, hQ⟩ => by
    obtain ⟨od, I3⟩ := I2.lock hq True.intro
    exact ⟨v, _, I3, rv, hQ od⟩
/-! min, max of a tuple of two -/
theorem ints_room {i j : Int} {n : Nat} (hu : n + 64 < cLine) : n + 1 + PyData.depthAll [.int i, .int j] < cLine := by
  have : PyData.depthAll [.int i, .int j] ≤ 1 := by simp [PyData.depthAll, PyData.depth]
  omega
theorem alike_ints (i j : Int) : AlikeAll [.int i, .int j] := by
  refine ⟨fun x hx y hy => ?_, fun x hx => ?_⟩
  · rcases List.mem_cons.mp hx with rfl | hx
    · rcases List.mem_cons.mp hy with rfl | hy
      · rfl
      · rw [List.mem_singleton] at hy; subst hy; rfl
    · rw [List.mem_singleton] at hx
      subst hx
      rcases List.mem_cons.mp hy with rfl | hy
      · rfl
      · rw [List.mem_singleton] at hy; subst hy; rfl
  · rcases List.mem_cons.mp hx with rfl | hx
    · exact fun e => nomatch e
    · rw [List.mem_singleton] at hx; subst hx; exact fun e => nomatch e
theorem cr_minT (hu : X.c.A.units + 64 < cLine) (hc : X.calm = true) : CallR X (.builtin "min") (fun xs H Q => ∃ (a : Addr) (i j : Int), xs = [.ref a] ∧ SqT X.K H a [.int i, .int j] ∧ Q (.int (min i j)) H) := by
  intro pins s σ H xs us Q I r q
  obtain ⟨a, i, j, rfl, hq, q⟩ := q
  obtain ⟨its, rv, ht, _⟩ := I.tuple hq
  rw [Vals.ref1 r]
  have hi : IntsAre its [i, j] := Vals.ints (ns := [i, j]) rv
  refine min_tuple_data (x := .int i) (xs := [.int j]) (I.ok.hd hc) ht (by rw [show its.toArray.toList = its from rfl]; exact hi.reads s.heap (ns := [i, j])) (alike_ints i j) (ints_room hu) fun i' v h' tk bs hv hr hk => ?_
  have e := minD_ints i [j]
  rw [show ([j].map PyData.int) = [.int j] from rfl] at e
  rw [e] at hr
  obtain ⟨t, rfl, _⟩ := PyProof.Rows.reads_int_inv hr
  exact ⟨.int _, H, I.kept hk, ⟨_, rfl⟩, q⟩
theorem cr_maxT (hu : X.c.A.units + 64 < cLine) (hc : X.calm = true) : CallR X (.builtin "max") (fun xs H Q => ∃ (a : Addr) (i j : Int), xs = [.ref a] ∧ SqT X.K H a [.int i, .int j] ∧ Q (.int (max i j)) H) := by
  intro pins s σ H xs us Q I r q
  obtain ⟨a, i, j, rfl, hq, q⟩ := q
  obtain ⟨its, rv, ht, _⟩ := I.tuple hq
  rw [Vals.ref1 r]
  have hi : IntsAre its [i, j] := Vals.ints (ns := [i, j]) rv
  refine max_tuple_data (x := .int i) (xs := [.int j]) (I.ok.hd hc) ht (by rw [show its.toArray.toList = its from rfl]; exact hi.reads s.heap (ns := [i, j])) (alike_ints i j) (ints_room hu) fun i' v h' tk bs hv hr hk => ?_
  have e := maxD_ints i [j]
  rw [show ([j].map PyData.int) = [.int j] from rfl] at e
  rw [e] at hr
  obtain ⟨t, rfl, _⟩ := PyProof.Rows.reads_int_inv hr
  exact ⟨.int _, H, I.kept hk, ⟨_, rfl⟩, q⟩
theorem c_minT {a b : Nat} (hu : X.c.A.units + 64 < cLine) (k : Φ (.int ((min a b : Nat) : Int)) μ) (hc : X.calm = true := by rfl) : wCl X (.builtin "min") [.tup [.int (a : Nat), .int (b : Nat)]] μ Φ := wcl_of (cr_minT hu hc) fun F H xs hs r1 Q kt => by
  cases r1 with
  | cons r rr =>
    cases rr
    cases r with
    | tup g q =>
      cases q with
      | cons q1 q =>
        cases q with
        | cons q2 q =>
          cases q
          cases q1
          cases q2
          exact ⟨_, a, b, rfl, Evl.st_of (hs.ex _ _ g), by rw [show (min (a : Int) (b : Int)) = ((min a b : Nat) : Int) by omega]; exact kt.now k hs (.int _)⟩
theorem c_maxT {a b : Nat} (hu : X.c.A.units + 64 < cLine) (k : Φ (.int ((max a b : Nat) : Int)) μ) (hc : X.calm = true := by rfl) : wCl X (.builtin "max") [.tup [.int (a : Nat), .int (b : Nat)]] μ Φ := wcl_of (cr_maxT hu hc) fun F H xs hs r1 Q kt => by
  cases r1 with
  | cons r rr =>
    cases rr
    cases r with
    | tup g q =>
      cases q with
      | cons q1 q =>
        cases q with
        | cons q2 q =>
          cases q
          cases q1
          cases q2
          exact ⟨_, a, b, rfl, Evl.st_of (hs.ex _ _ g), by rw [show (max (a : Int) (b : Int)) = ((max a b : Nat) : Int) by omega]; exact kt.now k hs (.int _)⟩
theorem c_min2N {a b : Nat} (k : Φ (.int ((min a b : Nat) : Int)) μ) (hc : X.calm = true := by rfl) : wCl X (.builtin "min") [.int (a : Nat), .int (b : Nat)] μ Φ := c_min2 hc (by
  rw [show (if (b : Int) < (a : Int) then (b : Int) else (a : Int)) = ((min a b : Nat) : Int) by split <;> omega]; exact k)
theorem c_max2N {a b : Nat} (k : Φ (.int ((max a b : Nat) : Int)) μ) (hc : X.calm = true := by rfl) : wCl X (.builtin "max") [.int (a : Nat), .int (b : Nat)] μ Φ := c_max2 hc (by
  rw [show (if (b : Int) > (a : Int) then (b : Int) else (a : Int)) = ((max a b : Nat) : Int) by split <;> omega]; exact k)
end
theorem sd_scr {μ : Mu} {Φ : D → Mu → Prop} {ds : List D} {a b : Option Int} (k : Φ (.lst (cutD ds a b)) μ) : slD (.scr ds) a b μ Φ := k
/-! zip -/
def zipD (xs ys : List D) : List D := (xs.zip ys).map fun p => .tup [p.1, p.2]
theorem zipD_get {xs ys : List D} {i : Nat} {d : D} (h : (zipD xs ys)[i]? = some d) : ∃ x y, xs[i]? = some x ∧ ys[i]? = some y ∧ d = .tup [x, y] := by
  unfold zipD at h
  obtain ⟨e, he, rfl⟩ := map_get' h
  obtain ⟨h1, h2⟩ := List.getElem?_zip_eq_some.mp he
  exact ⟨_, _, h1, h2, rfl⟩
theorem zipD_len {xs ys : List D} : (zipD xs ys).length = min xs.length ys.length := by unfold zipD; rw [List.length_map, List.length_zip]
section
variable {X : Cy} {e f : Expr} {ρ : Rho} {μ : Mu} {pos p tpos : Pos}
theorem wi_zip {elts : List Expr} {kk : Nat} {ΦI : List D → Mu → Prop} (hm : X.mg "zip" = none) (h : wE X e ρ μ fun d1 μ1 => wE X f ρ μ1 fun d2 μ2 => ∃ xs ys, ((d1 = .lst xs ∧ d2 = .lst ys) ∨ (d1 = .tup xs ∧ d2 = .tup ys)) ∧ ΦI (zipD xs ys) μ2) (hg : Gl X "zip" := by rfl)
    (hs : starEach [e, f] X.env = (false, eval e X.env) :: starEach [f] X.env := by rfl) (hs2 : starEach [f] X.env = [(false, eval f X.env)] := by rfl) (hpl : (backTo pos (starEach [f] X.env)).any (·.1) = false := by rfl) :
    wI X (.Tuple elts kk tpos) (.Call (.Name "zip" p) [e, f] [] pos) ρ μ ΦI := fun F σ H hh sl R kt =>
  si_of (RZ.pi_zipA hg hm (pa_cons pe_s (pa_cons pe_s pa_nil hs2) hs) hs hpl) (h F σ H hh sl _ fun v F1 H1 d μ1 q1 e1 hs1 r1 => q1 F1 σ H1 hs1 (sl.mono e1) _ fun v2 F2 H2 d2 μ2 ⟨xs, ys, hd, q⟩ e2 hs2 r2 => by
    rcases hd with ⟨h1, h2⟩ | ⟨h1, h2⟩
    · subst h1
      subst h2
      have r1' := r1.mono e2
      cases r1' with
      | lst g r =>
        cases r2 with
        | lst g2 r2 =>
          rename_i a vs b ws
          refine ⟨a, b, vs, ws, rfl, .inl ⟨Evl.ex_l hs2.ex (Evl.sq_of g), Evl.ex_l hs2.ex (Evl.sq_of g2), kt _ _ F2 μ2 H2 q (e1.trans e2) hs2 fun i F' μ' H' e' hs' => ?_⟩⟩
          have g' : SqL X.K H' a vs := Evl.ex_l hs'.ex (Evl.ex_l e' (Evl.sq_of g))
          have g2' : SqL X.K H' b ws := Evl.ex_l hs'.ex (Evl.ex_l e' (Evl.sq_of g2))
          have l1 := r.length
          have l2 := r2.length
          rw [zipD_len]
          refine ⟨fun hi => ⟨vs, ws, vs[i]'(by omega), ws[i]'(by omega), g', g2', List.getElem?_eq_getElem _, List.getElem?_eq_getElem _⟩, fun hi => ⟨vs, ws, g', g2', by omega⟩, fun x H3 d hy hd => ?_⟩
          obtain ⟨T, y1, y2, rfl, hT, rfl, f1, f2⟩ := hy
          obtain ⟨x1, x2, hx1, hx2, rfl⟩ := zipD_get hd
          obtain ⟨z1, k1, k2⟩ := r.get hx1
          obtain ⟨z2, k3, k4⟩ := r2.get hx2
          cases (f1 _ g').symm.trans k1
          cases (f2 _ g2').symm.trans k3
          obtain ⟨q1, q2⟩ := hs'.laid (u := .tup [y1, y2]) hT
          exact ⟨_, q2, q1, .tup upd_same (.cons ((k2.mono e').mono q2) (.cons ((k4.mono e').mono q2) .nil))⟩
    · subst h1
      subst h2
      have r1' := r1.mono e2
      cases r1' with
      | tup g r =>
        cases r2 with
        | tup g2 r2 =>
          rename_i a vs b ws
          refine ⟨a, b, vs, ws, rfl, .inr ⟨Evl.ex_t hs2.ex (Evl.st_of g), Evl.ex_t hs2.ex (Evl.st_of g2), kt _ _ F2 μ2 H2 q (e1.trans e2) hs2 fun i F' μ' H' e' hs' => ?_⟩⟩
          have g' : SqT X.K H' a vs := Evl.ex_t hs'.ex (Evl.ex_t e' (Evl.st_of g))
          have g2' : SqT X.K H' b ws := Evl.ex_t hs'.ex (Evl.ex_t e' (Evl.st_of g2))
          have l1 := r.length
          have l2 := r2.length
          rw [zipD_len]
          refine ⟨fun hi => ⟨vs, ws, vs[i]'(by omega), ws[i]'(by omega), g', g2', List.getElem?_eq_getElem _, List.getElem?_eq_getElem _⟩, fun hi => ⟨vs, ws, g', g2', by omega⟩, fun x H3 d hy hd => ?_⟩
          obtain ⟨T, y1, y2, rfl, hT, rfl, f1, f2⟩ := hy
          obtain ⟨x1, x2, hx1, hx2, rfl⟩ := zipD_get hd
          obtain ⟨z1, k1, k2⟩ := r.get hx1
          obtain ⟨z2, k3, k4⟩ := r2.get hx2
          cases (f1 _ g').symm.trans k1
          cases (f2 _ g2').symm.trans k3
          obtain ⟨q1, q2⟩ := hs'.laid (u := .tup [y1, y2]) hT
          exact ⟨_, q2, q1, .tup upd_same (.cons ((k2.mono e').mono q2) (.cons ((k4.mono e').mono q2) .nil))⟩)
end
end Oc

/-! Own layer: data in lists, places of data, the length of a dict. -/
namespace Oc
open PySem PySem.Spec L2
open Evl (Ex)
theorem pys_py : ∀ ds : List D, D.pys ds = ds.map D.py
  | [] => by simp only [D.pys]; rfl
  | d :: ds => by simp only [D.pys, List.map_cons]; rw [pys_py ds]
section
variable {X : Cy} {μ : Mu} {Φ : D → Mu → Prop} {d : D} {n k0 : Nat}
theorem o_inPY {q : Addr} {ds : List D} (m : Nat) (hm : μ[m]? = some (q, MO.lst ds)) (hu : X.c.A.units + 65 < cLine) (h1 : Ly d n) (h2 : Lys ds k0) (k : Φ (.bl (ds.any fun z => PyData.eqv z.py d.py)) μ) (hn : n ≤ 60 := by decide) (hk : k0 ≤ 60 := by decide) : wOp X (compareOp .In) d (.ptr q) μ Φ := wop_of (op_inD hu) fun F H u v hs r1 r2 Q kt => by
  cases r2
  obtain ⟨xs, g, rx⟩ := hs.lst hm
  have e : (D.lst ds).py = .list (D.pys ds) := by simp only [D.py]
  have hp : Dp X.K H (.ref q) (.list (D.pys ds)) := .lst (Evl.sq_of g) (reps_py hs.ex rx h2.st)
  refine ⟨_, _, rep_py hs.ex r1 h1.st, hp, h1.shaped (by omega), e ▸ (Ly.lst h2).shaped (by omega), ?_⟩
  rw [pys_py, List.any_map]
  exact kt.now k hs (.bl _)
theorem o_ninPY {q : Addr} {ds : List D} (m : Nat) (hm : μ[m]? = some (q, MO.lst ds)) (hu : X.c.A.units + 65 < cLine) (h1 : Ly d n) (h2 : Lys ds k0) (k : Φ (.bl (!ds.any fun z => PyData.eqv z.py d.py)) μ) (hn : n ≤ 60 := by decide) (hk : k0 ≤ 60 := by decide) : wOp X (compareOp .NotIn) d (.ptr q) μ Φ := wop_of (op_notInD hu) fun F H u v hs r1 r2 Q kt => by
  cases r2
  obtain ⟨xs, g, rx⟩ := hs.lst hm
  have e : (D.lst ds).py = .list (D.pys ds) := by simp only [D.py]
  have hp : Dp X.K H (.ref q) (.list (D.pys ds)) := .lst (Evl.sq_of g) (reps_py hs.ex rx h2.st)
  refine ⟨_, _, rep_py hs.ex r1 h1.st, hp, h1.shaped (by omega), e ▸ (Ly.lst h2).shaped (by omega), ?_⟩
  rw [pys_py, List.any_map]
  exact kt.now k hs (.bl _)
theorem o_inLY {ds : List D} (hu : X.c.A.units + 65 < cLine) (h1 : Ly d n) (h2 : Lys ds k0) (k : Φ (.bl (ds.any fun z => PyData.eqv z.py d.py)) μ) (hn : n ≤ 60 := by decide) (hk : k0 ≤ 60 := by decide) : wOp X (compareOp .In) d (.lst ds) μ Φ := wop_of (op_inD hu) fun F H u v hs r1 r2 Q kt => by
  have e : (D.lst ds).py = .list (D.pys ds) := by simp only [D.py]
  refine ⟨_, D.pys ds, rep_py hs.ex r1 h1.st, e ▸ rep_py hs.ex r2 (Ly.lst h2).st, h1.shaped (by omega), e ▸ (Ly.lst h2).shaped (by omega), ?_⟩
  rw [pys_py, List.any_map]
  exact kt.now k hs (.bl _)
theorem o_ninLY {ds : List D} (hu : X.c.A.units + 65 < cLine) (h1 : Ly d n) (h2 : Lys ds k0) (k : Φ (.bl (!ds.any fun z => PyData.eqv z.py d.py)) μ) (hn : n ≤ 60 := by decide) (hk : k0 ≤ 60 := by decide) : wOp X (compareOp .NotIn) d (.lst ds) μ Φ := wop_of (op_notInD hu) fun F H u v hs r1 r2 Q kt => by
  have e : (D.lst ds).py = .list (D.pys ds) := by simp only [D.py]
  refine ⟨_, D.pys ds, rep_py hs.ex r1 h1.st, e ▸ rep_py hs.ex r2 (Ly.lst h2).st, h1.shaped (by omega), e ▸ (Ly.lst h2).shaped (by omega), ?_⟩
  rw [pys_py, List.any_map]
  exact kt.now k hs (.bl _)
/-- l.index(x), l standing still -/
theorem m_index {ds : List D} (hu : X.c.A.units + 65 < cLine) (j : Nat) {z : D} (h1 : Ly d n) (h2 : Lys ds k0) (hj : ds[j]? = some z) (he : PyData.eqv z.py d.py = true) (hno : ∀ (m : Nat) (z' : D), m < j → ds[m]? = some z' → PyData.eqv z'.py d.py = false) (k : Φ (.int (j : Nat)) μ) (hn : n ≤ 60 := by decide) (hk : k0 ≤ 60 := by decide) :
    wMt X "list" "list.index" (.lst ds) [d] μ Φ := wmt_of (mt_indexD hu) fun F H x xs hs r1 r2 Q kt => by
  have e : (D.lst ds).py = .list (D.pys ds) := by simp only [D.py]
  have hp := e ▸ rep_py hs.ex r1 (Ly.lst h2).st
  cases r2 with
  | cons r rr =>
    cases rr
    cases r1 with
    | lst g rx =>
      refine ⟨_, _, d.py, D.pys ds, j, z.py, rfl, rfl, hp, rep_py hs.ex r h1.st, e ▸ (Ly.lst h2).shaped (by omega), h1.shaped (by omega), ?_, he, fun m z' hm hz => ?_, kt.now k hs (.int _)⟩
      · rw [pys_py, List.getElem?_map, hj]; rfl
      · rw [pys_py, List.getElem?_map] at hz
        obtain ⟨w, hw, rfl⟩ := Option.map_eq_some_iff.mp hz
        exact hno m w hm hw
theorem m_clear {q : Addr} {ds : List D} (m : Nat) (hm : μ[m]? = some (q, .lst ds)) (k : Φ .non (μ.set m (q, .lst []))) : wMt X "list" "list.clear" (.ptr q) [] μ Φ := wmt_of mt_clear fun F H u us hs r1 r2 Q kt => by
  cases r1
  cases r2
  obtain ⟨xs, g, rx⟩ := hs.lst hm
  exact ⟨_, _, rfl, rfl, g, kt.now k (hs.write hm (.lst .nil)) .non⟩
/-- len(d) of a dict with tuples as keys -/
theorem c_lenDT {q : Addr} {ds : List (List Key × D)} (m : Nat) (hm : μ[m]? = some (q, MO.dt ds)) (k : Φ (.int ds.length) μ) : wCl X (.builtin "len") [.ptr q] μ Φ := wcl_of call_len_dT fun F H xs hs r1 Q kt => by
  cases r1 with
  | cons r rr =>
    cases rr
    cases r
    obtain ⟨kvs, g, rk⟩ := hs.dt hm
    refine ⟨_, kvs, rfl, g, ?_⟩
    rw [← rk.len]
    exact kt.now k hs (.int _)
end
section
variable {X : Cy} {o e : Expr} {ρ : Rho} {μ : Mu} {Φ : D → Mu → Prop} {apos cpos : Pos}
theorem w_index (h : wE X o ρ μ fun d μ1 => tyD "list" d μ1 ∧ wA X [e] ρ μ1 fun ds μ2 => wMt X "list" "list.index" d ds μ2 Φ)
    (hbase : attributeBase o "index" X.env (eval o X.env) = eval o X.env := by rfl)
    (hfew : ((backTo cpos (starEach [e] X.env)).all (fun x => !x.1) && (backToKw cpos (keywordEach [] X.env)).all (fun x => x.1.isSome)
      && decide (([e] : List Expr).length + ([] : List Keyword).length + (if ([] : List Keyword).isEmpty then 0 else 1) < 30)) = true := by rfl)
    (hline : (apos.endLine == cpos.line) = true := by rfl) (hs : starEach [e] X.env = (false, eval e X.env) :: starEach [] X.env := by rfl) :
    wE X (.Call (.Attribute o "index" apos) [e] [] cpos) ρ μ Φ := w_bm (by decide) PySem.F.plainAttrs_list PySem.F.slot_list_index PySem.F.type_list_index h hbase hfew hline hs rfl
theorem w_clear (h : wE X o ρ μ fun d μ1 => tyD "list" d μ1 ∧ wMt X "list" "list.clear" d [] μ1 Φ) (hbase : attributeBase o "clear" X.env (eval o X.env) = eval o X.env := by rfl) (hline : (apos.endLine == cpos.line) = true := by rfl) :
    wE X (.Call (.Attribute o "clear" apos) [] [] cpos) ρ μ Φ := w_bm0 (by decide) PySem.F.plainAttrs_list PySem.F.slot_list_clear PySem.F.type_list_clear h hbase hline
end
/-! a list that stands still, or a cell -/
def LV (d : D) (μ : Mu) (ds : List D) : Prop := d = .lst ds ∨ ∃ q, d = .ptr q ∧ ∃ m : Nat, μ[m]? = some (q, MO.lst ds)
theorem LV.cons {d : D} {μ : Mu} {ds : List D} (h : LV d μ ds) (x : Addr × MO) : LV d (x :: μ) ds := by
  rcases h with h | ⟨q, h, m, hm⟩
  · exact .inl h
  · exact .inr ⟨q, h, m + 1, hm⟩
theorem LV.sq {K : KF} {F H : Hp} {μ : Mu} {d : D} {ds : List D} {v : V} (hs : Hs K F μ H) (r : Rep K F v d) (h : LV d μ ds) : ∃ a xs, v = .ref a ∧ SqL K H a xs ∧ Reps K F xs ds := by
  rcases h with rfl | ⟨q, rfl, m, hm⟩
  · cases r with
    | lst g rx => exact ⟨_, _, rfl, Evl.sq_of (hs.ex _ _ g), rx⟩
  · cases r
    obtain ⟨xs, g, rx⟩ := hs.lst hm
    exact ⟨_, xs, rfl, Evl.sq_of g, rx⟩
section
variable {X : Cy} {e : Expr} {ρ : Rho} {μ : Mu} {Φ : D → Mu → Prop} {pos p tpos : Pos}
theorem wi_lv {tg : Expr} {ΦI : List D → (Mu → Prop) → Mu → Prop} (h : wE X e ρ μ fun d μ1 => ∃ ds, LV d μ1 ds ∧ ΦI ds (fun μ' => LV d μ' ds) μ1) : wIP X tg e ρ μ ΦI := fun F σ H hs sl R kt =>
  si_of (pi_list pe_s) (h F σ H hs sl _ fun v F1 H1 d μ1 ⟨ds, hd, z⟩ e1 hs1 r1 => by
    obtain ⟨a, xs, rfl, g, r⟩ := hd.sq hs1 r1
    refine ⟨a, rfl, ⟨xs, g⟩, kt _ ds _ F1 μ1 H1 z e1 hs1 fun i F' μ' H' e' hd' hs' => ?_⟩
    obtain ⟨a', ys, e2, g', r'⟩ := hd'.sq hs' (r1.mono e')
    cases e2
    refine ⟨fun hi => ⟨ys, ys[i]'(by rw [r'.length]; exact hi), g', List.getElem?_eq_getElem _⟩, fun hi => ⟨ys, g', by rw [r'.length]; exact Nat.le_of_eq hi.symm⟩, fun x H2 d hy hd => ?_⟩
    obtain ⟨rfl, fy⟩ := hy
    obtain ⟨y, h1, h2⟩ := r'.get hd
    cases (fy _ g').symm.trans h1
    exact ⟨F', Ex.refl _, hs', h2⟩)
theorem wi_enumLV {elts : List Expr} {kk : Nat} {ΦI : List D → (Mu → Prop) → Mu → Prop} (hm : X.mg "enumerate" = none) (h : wE X e ρ μ fun d μ1 => ∃ ds, LV d μ1 ds ∧ ΦI (enumD ds) (fun μ' => LV d μ' ds) μ1) (hg : Gl X "enumerate" := by rfl) (hs : starEach [e] X.env = [(false, eval e X.env)] := by rfl) :
    wIP X (.Tuple elts kk tpos) (.Call (.Name "enumerate" p) [e] [] pos) ρ μ ΦI := fun F σ H hh sl R kt =>
  si_of (pi_enum hg hm (pa_cons pe_s pa_nil hs) hs) (h F σ H hh sl _ fun v F1 H1 d μ1 ⟨ds, hd, z⟩ e1 hs1 r1 => by
    obtain ⟨a, xs, rfl, g, r⟩ := hd.sq hs1 r1
    refine ⟨a, xs, rfl, g, kt _ _ _ F1 μ1 H1 z e1 hs1 fun i F' μ' H' e' hd' hs' => ?_⟩
    obtain ⟨a', ys, e2, g', r'⟩ := hd'.sq hs' (r1.mono e')
    cases e2
    rw [enumD_len]
    refine ⟨fun hi => ⟨ys, ys[i]'(by rw [r'.length]; exact hi), g', List.getElem?_eq_getElem _⟩, fun hi => ⟨ys, g', by rw [r'.length]; exact Nat.le_of_eq hi.symm⟩, fun x H2 d hy hd => ?_⟩
    obtain ⟨T, y, rfl, hT, rfl, fy⟩ := hy
    obtain ⟨x', hx', rfl⟩ := enumD_get hd
    obtain ⟨z, h1, h2⟩ := r'.get hx'
    cases (fy _ g').symm.trans h1
    obtain ⟨g1, g2⟩ := hs'.laid (u := .tup [.int (i : Nat), y]) hT
    exact ⟨_, g2, g1, .tup upd_same (.cons (.int _) (.cons (h2.mono g2) .nil))⟩)
/-- a number of the module -/
theorem w_glob {z : Str} {n : Int} (hm : ∃ t, X.mg z = some (.int n t)) (k : Φ (.int n) μ) (hg : Gl X z := by rfl) (hd : (z == ("__debug__" : Str)) = false := by decide) : wE X (.Name z pos) ρ μ Φ := fun F σ H hs sl Q kt => by
  obtain ⟨t, hm⟩ := hm
  exact se_of (pe_glob (v := .int n) hg hm ⟨t, rfl⟩ hd) (kt.now k hs (.int n))
end
/-! rows in lists -/
theorem eqv_int (i j : Int) : PyData.eqv (D.int i).py (D.int j).py = decide (i = j) := by
  simp only [D.py, PyData.eqv]
  rw [Bool.eq_iff_iff, beq_iff_eq, decide_eq_true_iff]
theorem eqvAll_nats : ∀ a b : List Nat, PyData.eqvAll (D.pys (a.map fun x : Nat => D.int x)) (D.pys (b.map fun x : Nat => D.int x)) = decide (a = b)
  | [], [] => by simp only [List.map_nil, D.pys, PyData.eqvAll]; rfl
  | [], y :: b => by simp only [List.map_nil, List.map_cons, D.pys, PyData.eqvAll]; rfl
  | x :: a, [] => by simp only [List.map_nil, List.map_cons, D.pys, PyData.eqvAll]; rfl
  | x :: a, y :: b => by
    simp only [List.map_cons, D.pys, PyData.eqvAll]
    rw [eqvAll_nats a b, eqv_int]
    by_cases h : x = y
    · subst h; simp
    · have h' : ¬ ((x : Int) = (y : Int)) := by omega
      simp [h, h']
abbrev rwD (row : List Nat) : D := .tup (row.map fun a : Nat => .int a)
theorem eqv_rows (a b : List Nat) : PyData.eqv (rwD a).py (rwD b).py = decide (a = b) := by
  rw [← eqvAll_nats a b]
  show PyData.eqv (D.tup _).py (D.tup _).py = _
  simp only [D.py, PyData.eqv]
theorem ly_rw (l : List Nat) : Ly (rwD l) 1 := Ly.tup (Lys.map fun a _ => Ly.int a)
theorem rows_any (L : List (List Nat)) (r : List Nat) : ((L.map rwD).any fun z => PyData.eqv z.py (rwD r).py) = decide (r ∈ L) := by
  rw [List.any_map, Bool.eq_iff_iff, List.any_eq_true, decide_eq_true_iff]
  constructor
  · rintro ⟨a, ha, h⟩
    have h : PyData.eqv (rwD a).py (rwD r).py = true := h
    rw [eqv_rows, decide_eq_true_iff] at h
    subst h
    exact ha
  · exact fun h => ⟨r, h, by show PyData.eqv (rwD r).py (rwD r).py = true; rw [eqv_rows]; simp⟩
/-! rows as keys -/
abbrev rk (row : List Nat) : List Key := row.map fun a : Nat => .inl (a : Int)
theorem rk_eq (row : List Nat) : rwD row = tkD (rk row) := by
  show D.tup _ = D.tup _
  rw [List.map_map]
  rfl
theorem rk_inj : ∀ {a b : List Nat}, rk a = rk b → a = b
  | [], [], _ => rfl
  | x :: a, y :: b, h => by
    have h1 : (Sum.inl (x : Int) : Key) = .inl (y : Int) ∧ rk a = rk b := by simpa [rk] using h
    have h2 : (x : Int) = (y : Int) := by cases h1.1; rfl
    rw [rk_inj h1.2, show x = y by omega]
  | [], _ :: _, h => by cases h
  | _ :: _, [], h => by cases h
theorem putD_same {ds : List (List Key × D)} {k : List Key} {v : D} (h : (valD ds k).isSome = true) (hv : ∀ e ∈ ds, e.1 = k → e.2 = v) : putD ds k v = ds := by
  unfold putD
  rw [valD_any, h, if_pos rfl]
  have : (ds.map fun kv => if kv.1 = k then (kv.1, v) else kv) = ds.map id := List.map_congr_left fun e he => by
    by_cases h1 : e.1 = k
    · rw [if_pos h1, ← hv e he h1]; rfl
    · rw [if_neg h1]; rfl
  rw [this, List.map_id]
theorem Rm.un65 {k : Nat} {A : Around} (h : Rm k A) : A.units + 65 < cLine := by have := h.r.un; omega
/-- len(d), d standing still -/
theorem c_lenZ {X : Cy} {μ : Mu} {Φ : D → Mu → Prop} {ks : List (List Key)} {vs : List D} (k : Φ (.int ks.length) μ) : wCl X (.builtin "len") [.dct ks vs] μ Φ := fun F H xs hs r1 Q kt pins s σ us I rv => by
  cases r1 with
  | cons r rr =>
    cases rr
    cases r with
    | dct g e2 rx =>
      obtain ⟨u, rfl, ru⟩ := vals1 rv
      cases ru
      obtain ⟨z, hd, ys, rel, dd⟩ := dt_rd I.hok (.inr ⟨_, hs.ex _ _ g⟩)
      have hl := Paired.length rel
      have hks : ks.length = ys.length := by rw [← e2, List.length_map]; exact hl
      refine call_len_dictH hd dd (by rw [← hl]; rw [sizeLine_eq] at z; omega) ?_
      rw [← hks]
      exact ⟨.int ((ks.length : Nat) : Int), H, I.tok _, ⟨_, rfl⟩, kt.now k hs (.int _)⟩
end Oc

/-! Own layer: the keys of a dict as a list, pairs sorted into a new cell. -/
namespace Oc
open PySem PySem.Spec L2
open Evl (Ex)
/-- a tuple that is there stands still -/
theorem Hs.tupS {K : KF} {F H : Hp} {μ : Mu} (h : Hs K F μ H) {b : Addr} {xs : List V} (hb : H b = some (.tup xs)) : ∃ F', Ex F F' ∧ Hs K F' μ H ∧ F' b = some (.tup xs) := by
  cases e : F b with
  | some u =>
    have := h.ex b u e
    rw [hb] at this
    cases this
    exact ⟨F, Ex.refl F, h, e⟩
  | none =>
    obtain ⟨h1, h2⟩ := h.still e hb fun o q => by
      obtain ⟨_, u, h3, h4⟩ := h.mu b o q
      rw [hb] at h3
      cases h3
      cases h4
    exact ⟨_, h2, h1, upd_same⟩
theorem Hs.tupsS {K : KF} {H : Hp} {μ : Mu} : ∀ {kvs : List (List Key × V)} {bs : List Addr} {F : Hp}, Hs K F μ H → IsKeys H kvs bs → ∃ F', Ex F F' ∧ Hs K F' μ H ∧ Reps K F' (bs.map V.ref) (kvs.map fun e => tkD e.1)
  | _, _, F, h, .nil => ⟨F, Ex.refl F, h, .nil⟩
  | _, _, F, h, .cons hb t => by
    obtain ⟨F1, e1, h1, f1⟩ := h.tupS hb
    obtain ⟨F2, e2, h2, r2⟩ := Hs.tupsS h1 t
    refine ⟨F2, e1.trans e2, h2, .cons (.tup (e2 _ _ f1) ?_) r2⟩
    exact reps_kV _
section
variable {X : Cy} {μ : Mu} {Φ : D → Mu → Prop}
/-- list(d) of a dict with tuples as keys -/
theorem c_lstDT {q : Addr} {ds : List (List Key × D)} (m : Nat) (hm : μ[m]? = some (q, MO.dt ds)) (k : Φ (.lst (ds.map fun e => tkD e.1)) μ) (hc : X.calm = true := by rfl) : wCl X (.type "list") [.ptr q] μ Φ := wcl_of (call_list_dT hc) fun F H xs hs r1 Q kt => by
  cases r1 with
  | cons r rr =>
    cases rr
    cases r
    obtain ⟨kvs, g, rk⟩ := hs.dt hm
    refine ⟨q, kvs, rfl, .inl g, fun p bs hp hk => ?_⟩
    obtain ⟨F1, e1, h1, r1⟩ := hs.tupsS hk
    obtain ⟨g1, g2⟩ := h1.laid (u := .lst (bs.map V.ref)) hp
    have ek : ∀ {ds : List (List Key × D)} {kvs : List (List Key × V)}, RepK X.K F ds kvs → kvs.map (fun e => tkD e.1) = ds.map fun e => tkD e.1 := fun {ds kvs} r => by
      induction r with
      | nil => rfl
      | cons r rr ih => rw [List.map_cons, List.map_cons, ih, r.1]
    rw [ek rk] at r1
    exact kt _ _ _ _ _ k (e1.trans g2) g1 (.lst upd_same (r1.mono g2))
theorem c_sortedPP {d : D} {ps : List (Nat × Nat)} (hd : d = .lst (ps.map natP)) (k : ∀ (ps' : List (Nat × Nat)) (q : Addr), ps'.Perm ps → ps'.Pairwise leP → Φ (.ptr q) ((q, .lst (ps'.map natP)) :: μ)) : wCl X (.builtin "sorted") [d] μ Φ :=
  wcl_of cr_sortedPO fun F H vs hs r1 Q kt => by
  subst hd
  cases r1 with
  | cons r rr =>
    cases rr
    cases r with
    | lst g r =>
      rename_i a xs
      have at_ : ∀ {xs : List V} {ps : List (Nat × Nat)}, Reps X.K F xs (ps.map natP) → (∀ x ∈ xs, ∃ (t : Addr) (i j : Nat), x = .ref t ∧ F t = some (.tup [.int i, .int j])) ∧ xs.map (fun x => ((pairV H x).1.toNat, (pairV H x).2.toNat)) = ps := fun {xs ps} r => by
        induction ps generalizing xs with
        | nil => cases r; exact ⟨fun x hx => (nomatch hx), rfl⟩
        | cons p ps ih =>
          cases r with
          | cons r rr =>
            obtain ⟨h1, h2⟩ := ih rr
            cases r with
            | tup g q =>
              cases q with
              | cons q1 q =>
                cases q with
                | cons q2 q =>
                  cases q
                  cases q1
                  cases q2
                  refine ⟨fun x hx => ?_, ?_⟩
                  · rcases List.mem_cons.mp hx with rfl | hx
                    · exact ⟨_, _, _, rfl, g⟩
                    · exact h1 x hx
                  · rw [List.map_cons, h2]
                    congr 1
                    simp only [pairV, hs.ex _ _ g]
                    exact Prod.ext (by simp) (by simp)
      obtain ⟨h1, h2⟩ := at_ r
      have hat : ∀ x ∈ xs, ∃ (t : Addr) (i j : Nat), x = .ref t ∧ F t = some (.tup [.int i, .int j]) ∧ pairV H x = ((i : Int), (j : Int)) := fun x hx => by
        obtain ⟨t, i, j, rfl, ht⟩ := h1 x hx
        exact ⟨t, i, j, rfl, ht, by simp only [pairV, hs.ex _ _ ht]⟩
      refine ⟨a, xs, pairV H, rfl, Evl.sq_of (hs.ex _ _ g), fun x hx => ?_, fun ys p hsr hst hp => ?_⟩
      · obtain ⟨t, i, j, rfl, ht, e⟩ := hat x hx
        exact ⟨t, rfl, by rw [e]; exact hs.ex _ _ ht⟩
      · have hys : ∀ y ∈ ys, y ∈ xs := fun y hy => hst.perm.mem_iff.mp hy
        have rys : ∀ ys : List V, (∀ y ∈ ys, y ∈ xs) → Reps X.K F ys ((ys.map fun x => ((pairV H x).1.toNat, (pairV H x).2.toNat)).map natP) := fun ys hys => by
          induction ys with
          | nil => exact .nil
          | cons y ys ih =>
            obtain ⟨t, i, j, rfl, ht, e⟩ := hat y (hys y List.mem_cons_self)
            rw [List.map_cons, List.map_cons]
            refine .cons ?_ (ih fun z hz => hys z (List.mem_cons_of_mem _ hz))
            rw [e]
            exact .tup ht (.cons (.int _) (.cons (.int _) .nil))
        refine kt _ _ _ _ _ (k (ys.map fun x => ((pairV H x).1.toNat, (pairV H x).2.toNat)) p (by rw [← h2]; exact hst.perm.map _) ?_) (Ex.refl _) (hs.cell hp (.lst (rys ys hys))) (.ptr p)
        rw [List.pairwise_map]
        refine List.Pairwise.imp_of_mem (fun {x y} hx hy h => ?_) hsr
        obtain ⟨t, i, j, rfl, ht, e1⟩ := hat x (hys x hx)
        obtain ⟨t', i', j', rfl, ht', e2⟩ := hat y (hys y hy)
        have h := SrtO.lexB_no.mp h
        rw [e1, e2] at h
        rw [e1, e2]
        show (i : Int).toNat < (i' : Int).toNat ∨ _
        simp only [Int.toNat_natCast]
        omega
end
end Oc

/-! Own layer: zip of a list beside a tuple, either way about. -/
namespace Oc
open PySem PySem.Spec L2
open Evl (Ex)
/-- t: a tuple, else a list -/
def sqB (t : Bool) (K : PySem.W.Frag) (H : Hp) (a : Addr) (xs : List V) : Prop := match t with
  | false => SqL K H a xs
  | true => SqT K H a xs
def itB (t : Bool) (h : Heap) (it l : Addr) (k : Nat) : Prop := match t with
  | false => h.IsListIter it l k
  | true => h.IsTupleIter it l k
def isB (t : Bool) (h : Heap) (l : Addr) (its : Array Value) : Prop := match t with
  | false => h.IsList l its
  | true => h.IsTuple l its
def clB (t : Bool) : String := match t with
  | false => "list_iterator"
  | true => "tuple_iterator"
theorem itB.keep {t : Bool} {h h' : Heap} {it l : Addr} {k : Nat} (x : itB t h it l k) (e : ∀ o, h.get? it = some o → h'.get? it = some o) : itB t h' it l k := by
  cases t with
  | false => exact Heap.IsListIter.at x e
  | true => exact Heap.IsTupleIter.at x e
theorem isB.keep {t : Bool} {h h' : Heap} {l : Addr} {its : Array Value} (x : isB t h l its) (e : ∀ o, h.get? l = some o → h'.get? l = some o) : isB t h' l its := by
  cases t with
  | false => exact Heap.IsList.at x e
  | true => obtain ⟨o, ho, r⟩ := (show h.IsTuple l its from x); exact ⟨o, e o ho, r⟩
theorem itB.obj {t : Bool} {h : Heap} {it l : Addr} {k : Nat} (x : itB t h it l k) : ∃ o f, h.get? it = some o ∧ o.data = .fields f := by
  cases t with
  | false => obtain ⟨o, e, _, d⟩ := (show h.IsListIter it l k from x); exact ⟨o, _, e, d⟩
  | true => obtain ⟨o, e, _, d⟩ := (show h.IsTupleIter it l k from x); exact ⟨o, _, e, d⟩
theorem isB.lt {t : Bool} {h : Heap} {l : Addr} {its : Array Value} (x : isB t h l its) : l < h.objs.size := by
  cases t with
  | false => obtain ⟨o, ho, _⟩ := (show h.IsList l its from x); exact Heap.lt_size ho
  | true => obtain ⟨o, ho, _⟩ := (show h.IsTuple l its from x); exact Heap.lt_size ho
theorem sqB.ex {t : Bool} {K : PySem.W.Frag} {H H' : Hp} {a : Addr} {xs : List V} (e : Ex H H') (x : sqB t K H a xs) : sqB t K H' a xs := by
  cases t with
  | false => exact Evl.ex_l e x
  | true => exact Evl.ex_t e x
theorem sqB.at_ {X : Cx} {t : Bool} {pins : List (Addr × Obj)} {σ : L2.St} {H : Hp} {s : Shared} {a : Addr} {xs : List V} (I : Inv X pins σ H s) (x : sqB t X.K H a xs) : ∃ its : List Value, Vals xs its ∧ isB t s.heap a its.toArray := by
  cases t with
  | false => obtain ⟨its, r, p, _⟩ := I.list x; exact ⟨its, r, p.isList⟩
  | true => obtain ⟨its, r, p, _⟩ := I.tuple x; exact ⟨its, r, p⟩
theorem sqB.inj {X : Cx} {t : Bool} {pins : List (Addr × Obj)} {σ : L2.St} {H : Hp} {s : Shared} {a : Addr} {xs ys : List V} (I : Inv X pins σ H s) (x : sqB t X.K H a xs) (y : sqB t X.K H a ys) : xs = ys := by
  cases t with
  | false => exact I.list_inj x y
  | true => exact I.tuple_inj x y
section
variable {prog : Program} {w : World} {A : Around} {E : Value → Shared → Prop} {s : Shared} {t t2 : Bool}
theorem nextB_item {it l : Addr} {i : Nat} {items : Array Value} {x : Value} {Q : Value → Shared → Prop} (hit : itB t s.heap it l i) (hl : isB t s.heap l items) (hx : items[i]? = some x)
    (hQ : ∀ h', itB t h' it l (i + 1) → Heap.SameBut it s.heap h' → Q x { s with heap := h' }) : wpAny (model prog w) A (Builtin.SmallTypes.nextOf (.ref it)) Q E s := by
  cases t with
  | false => exact wpAny_nextOf_list_item hit hl hx hQ
  | true => exact RZ.nextOf_tuple_item hit hl hx hQ
theorem nextB_end {it l : Addr} {i : Nat} {items : Array Value} {Q : Value → Shared → Prop} (hh : A.handled = none) (hit : itB t s.heap it l i) (hl : isB t s.heap l items) (hx : items[i]? = none)
    (hE : ∀ h' e, Heap.ExtBut it s.heap h' → (∃ o, h'.get? e = some o ∧ o.cls = .type "StopIteration") → E (.ref e) { s with heap := h' }) : wpAny (model prog w) A (Builtin.SmallTypes.nextOf (.ref it)) Q E s := by
  cases t with
  | false => exact wpAny_nextOf_list_end hh hit hl hx hE
  | true => exact RZ.nextOf_tuple_end hh hit hl hx hE
theorem iterB {l : Addr} {items : Array Value} {Q : Value → Shared → Prop} (hl : isB t s.heap l items) (h : Q (.ref s.heap.objs.size) { s with heap := s.heap.push { cls := .type (clB t), data := .fields #[.ref l, .int 0 0] } }) :
    wpAny (model prog w) A (pyIter (.ref l)) Q E s := by
  cases t with
  | false => exact wpAny_pyIter_list hl h
  | true => exact wpAny_pyIter_tuple hl h
/-- the state of a zip between two turns -/
structure Zst (t t2 : Bool) (z TI TO i1 i2 l1 l2 : Addr) (k : Nat) (h : Heap) : Prop where
  zp : IsZip h z TI TO .none
  ti : IsPair h TI (.ref i1) (.ref i2)
  to : ∃ x y, IsPair h TO x y
  i1 : itB t h i1 l1 k
  i2 : itB t2 h i2 l2 k
variable {z TI TO i1 i2 l1 l2 : Addr} {k : Nat} {xs ys : Array Value}
/-- two items, handed out as a new pair -/
theorem zipB_item {x y : Value} {Q : Value → Shared → Prop} (D : ZipApart z TI TO i1 i2 l1 l2) (S : Zst t t2 z TI TO i1 i2 l1 l2 k s.heap) (h1 : isB t s.heap l1 xs) (h2 : isB t2 s.heap l2 ys) (hx : xs[k]? = some x) (hy : ys[k]? = some y)
    (hQ : ∀ h', IsZip h' z TI TO (rawInt s.heap.objs.size) → IsPair h' TI (.ref i1) (.ref i2) → (∃ a b, IsPair h' TO a b) → itB t h' i1 l1 (k + 1) → itB t2 h' i2 l2 (k + 1) → IsPair h' s.heap.objs.size x y →
      (∀ c o, c ≠ z → c ≠ TO → c ≠ i1 → c ≠ i2 → s.heap.get? c = some o → h'.get? c = some o) → Q (.ref s.heap.objs.size) { s with heap := h' }) :
    wpAny (model prog w) A (Builtin.«zip.__next__» ⟨[.ref z], []⟩) (fun fin s' => ∃ v, fin = .done (.ret v) ∧ Q v s') E s := by
  obtain ⟨hz, hTI, ⟨a, b, hTO⟩, S1, S2⟩ := S
  show wpAny _ _ (field (.ref z) 2 >>= _) _ _ _
  refine wpAny_bind (wpAny_field hz rfl (x := .bool false) rfl ?_)
  show wpAny _ _ (field (.ref z) 3 >>= _) _ _ _
  refine wpAny_bind (wpAny_field hz rfl (x := .ref TI) rfl (wpAny_bind (wpAny_seqItems hTI rfl ?_)))
  show wpAny _ _ (Builtin.SmallTypes.ownedTupleIsFree (.ref z) >>= _) _ _ _
  unfold Builtin.SmallTypes.ownedTupleIsFree
  refine wpAny_bind (wpAny_bind (wpAny_field hz rfl (x := .none) rfl (wpAny_pure ?_)))
  simp only [if_true]
  refine wpAny_bind (wpAny_rule (wpAny_bind (wpAny_field hz rfl (x := .ref TO) rfl (wpAny_bind (wpAny_setField_rec hz (by simp) fun g1 z1 b1 => ?_)))))
  replace z1 : IsZip g1 z TI TO .ellipsis := z1
  simp only [List.zipIdx_cons, List.zipIdx_nil, List.forIn_cons, List.forIn_nil]
  refine wpAny_bind (wpAny_bind (wpAny_bind (wpAny_onRaise ?_)))
  show wpAny _ _ (Builtin.SmallTypes.nextOf (.ref i1) >>= _) _ _ _
  refine wpAny_bind (nextB_item (S1.keep fun o e => b1.extBut _ o D.i1z e) (h1.keep fun o e => b1.extBut _ o D.l1z e) hx fun g2 S1' b2 => wpAny_pure ?_)
  have p2 : IsPair g2 TO a b := b2.extBut _ _ D.TOi1 (b1.extBut _ _ D.TOz hTO)
  refine wpAny_bind (wpAny_seqItems p2 rfl (wpAny_bind (wpAny_updateSeq_pair p2 fun g3 p3 b3 => wpAny_bind (wpAny_letGo (wpAny_pure ?_)))))
  replace p3 : IsPair g3 TO x b := p3
  refine wpAny_bind (wpAny_bind (wpAny_onRaise ?_))
  show wpAny _ _ (Builtin.SmallTypes.nextOf (.ref i2) >>= _) _ _ _
  have k3 : ∀ c o, c ≠ z → c ≠ TO → c ≠ i1 → s.heap.get? c = some o → g3.get? c = some o := fun c o q1 q2 q3 e => b3.extBut _ _ q2 (b2.extBut _ _ q3 (b1.extBut _ _ q1 e))
  refine wpAny_bind (nextB_item (S2.keep fun o e => k3 _ o D.i2z D.TOi2.symm D.i12.symm e) (h2.keep fun o e => k3 _ o D.l2z D.l2TO D.l2i1 e) hy fun g4 S2' b4 => wpAny_pure ?_)
  have p4 : IsPair g4 TO x b := b4.extBut _ _ D.TOi2 p3
  refine wpAny_bind (wpAny_seqItems p4 rfl (wpAny_bind (wpAny_updateSeq_pair p4 fun g5 p5 b5 => wpAny_bind (wpAny_letGo (wpAny_pure (wpAny_pure ?_))))))
  replace p5 : IsPair g5 TO x y := p5
  refine wpAny_bind (wpAny_seqItems p5 rfl (wpAny_bind (wpAny_newTuple ?_)))
  have n5 : g5.objs.size = s.heap.objs.size := by rw [b5.1, b4.1, b3.1, b2.1, b1.1]
  have z5 : IsZip g5 z TI TO .ellipsis := b5.extBut _ _ D.TOz.symm (b4.extBut _ _ D.i2z.symm (b3.extBut _ _ D.TOz.symm (b2.extBut _ _ D.i1z.symm z1)))
  have k5 : ∀ c o, c ≠ z → c ≠ TO → c ≠ i1 → c ≠ i2 → s.heap.get? c = some o → g5.get? c = some o := fun c o q1 q2 q3 q4 e => b5.extBut _ _ q2 (b4.extBut _ _ q4 (k3 c o q1 q2 q3 e))
  have S1'' : itB t g5 i1 l1 (k + 1) := S1'.keep fun o e => b5.extBut _ _ D.TOi1.symm (b4.extBut _ _ D.i12 (b3.extBut _ _ D.TOi1.symm e))
  have S2'' : itB t2 g5 i2 l2 (k + 1) := S2'.keep fun o e => b5.extBut _ _ D.TOi2.symm e
  have zlt : z < g5.objs.size := Heap.lt_size z5
  show wpAny _ _ (Builtin.SmallTypes.ownedTupleHandOut (.ref z) (.ref g5.objs.size) >>= _) _ _ _
  unfold Builtin.SmallTypes.ownedTupleHandOut
  have z6 : IsZip (g5.push { cls := .type "tuple", data := .seq #[x, y] }) z TI TO .ellipsis := Heap.get?_push_of_some _ z5
  refine wpAny_bind (wpAny_bind (wpAny_setField_rec z6 (by simp) fun g7 z7 b7 => ?_))
  replace z7 : IsZip g7 z TI TO (rawInt g5.objs.size) := z7
  refine wpAny_setField_rec z7 (by simp) fun g8 z8 b8 => ?_
  replace z8 : IsZip g8 z TI TO (rawInt g5.objs.size) := z8
  have up : ∀ c o, c ≠ z → g5.get? c = some o → g8.get? c = some o := fun c o q e => b8.extBut _ _ q (b7.extBut _ _ q (Heap.get?_push_of_some _ e))
  have t8 : IsPair g8 g5.objs.size x y := b8.extBut _ _ (Nat.ne_of_gt zlt) (b7.extBut _ _ (Nat.ne_of_gt zlt) (Heap.get?_push_size _ rfl))
  rw [n5] at z8 t8
  refine wpAny_pure ⟨_, rfl, ?_⟩
  show Q (.ref g5.objs.size) _
  rw [n5]
  exact hQ g8 z8 (up _ _ D.TIz (k5 _ _ D.TIz D.TITO D.TIi1 D.TIi2 hTI)) ⟨x, y, up _ _ D.TOz p5⟩ (S1''.keep fun o e => up _ o D.i1z e) (S2''.keep fun o e => up _ o D.i2z e) t8 fun c o q1 q2 q3 q4 e => up c o q1 (k5 c o q1 q2 q3 q4 e)
/-- one of both is at its end -/
theorem zipB_end {Q : Fin → Shared → Prop} (hh : A.handled = none) (D : ZipApart z TI TO i1 i2 l1 l2) (S : Zst t t2 z TI TO i1 i2 l1 l2 k s.heap) (h1 : isB t s.heap l1 xs) (h2 : isB t2 s.heap l2 ys) (he : xs[k]? = none ∨ ys[k]? = none)
    (hE : ∀ h' e, (∀ c o, c ≠ z → c ≠ TO → c ≠ i1 → c ≠ i2 → s.heap.get? c = some o → h'.get? c = some o) → (∃ o, h'.get? e = some o ∧ o.cls = .type "StopIteration") → E (.ref e) { s with heap := h' }) :
    wpAny (model prog w) A (Builtin.«zip.__next__» ⟨[.ref z], []⟩) Q E s := by
  obtain ⟨hz, hTI, ⟨a, b, hTO⟩, S1, S2⟩ := S
  show wpAny _ _ (field (.ref z) 2 >>= _) _ _ _
  refine wpAny_bind (wpAny_field hz rfl (x := .bool false) rfl ?_)
  show wpAny _ _ (field (.ref z) 3 >>= _) _ _ _
  refine wpAny_bind (wpAny_field hz rfl (x := .ref TI) rfl (wpAny_bind (wpAny_seqItems hTI rfl ?_)))
  show wpAny _ _ (Builtin.SmallTypes.ownedTupleIsFree (.ref z) >>= _) _ _ _
  unfold Builtin.SmallTypes.ownedTupleIsFree
  refine wpAny_bind (wpAny_bind (wpAny_field hz rfl (x := .none) rfl (wpAny_pure ?_)))
  simp only [if_true]
  refine wpAny_bind (wpAny_rule (wpAny_bind (wpAny_field hz rfl (x := .ref TO) rfl (wpAny_bind (wpAny_setField_rec hz (by simp) fun g1 z1 b1 => ?_)))))
  replace z1 : IsZip g1 z TI TO .ellipsis := z1
  simp only [List.zipIdx_cons, List.zipIdx_nil, List.forIn_cons, List.forIn_nil]
  refine wpAny_bind (wpAny_bind (wpAny_bind (wpAny_onRaise ?_)))
  show wpAny _ _ (Builtin.SmallTypes.nextOf (.ref i1) >>= _) _ _ _
  cases hx : xs[k]? with
  | none =>
    refine wpAny_bind (nextB_end hh (S1.keep fun o e => b1.extBut _ o D.i1z e) (h1.keep fun o e => b1.extBut _ o D.l1z e) hx fun g2 e b2 ⟨oe, q1, q2⟩ => ?_)
    have z2 : IsZip g2 z TI TO .ellipsis := b2 _ _ D.i1z.symm z1
    have ne : e ≠ z := fun q => by subst q; rw [z2] at q1; cases q1; simp at q2
    exact wpAny_setField_rec z2 (by simp) fun g3 _ b3 => hE g3 e (fun c o c1 _ c3 _ q => b3.extBut _ _ c1 (b2 _ _ c3 (b1.extBut _ _ c1 q))) ⟨oe, b3.extBut _ _ ne q1, q2⟩
  | some x =>
    have hy : ys[k]? = none := he.resolve_left (by rw [hx]; exact fun q => nomatch q)
    refine wpAny_bind (nextB_item (S1.keep fun o e => b1.extBut _ o D.i1z e) (h1.keep fun o e => b1.extBut _ o D.l1z e) hx fun g2 S1' b2 => wpAny_pure ?_)
    have p2 : IsPair g2 TO a b := b2.extBut _ _ D.TOi1 (b1.extBut _ _ D.TOz hTO)
    refine wpAny_bind (wpAny_seqItems p2 rfl (wpAny_bind (wpAny_updateSeq_pair p2 fun g3 p3 b3 => wpAny_bind (wpAny_letGo (wpAny_pure ?_)))))
    refine wpAny_bind (wpAny_bind (wpAny_onRaise ?_))
    show wpAny _ _ (Builtin.SmallTypes.nextOf (.ref i2) >>= _) _ _ _
    have k3 : ∀ c o, c ≠ z → c ≠ TO → c ≠ i1 → s.heap.get? c = some o → g3.get? c = some o := fun c o q1 q2 q3 e => b3.extBut _ _ q2 (b2.extBut _ _ q3 (b1.extBut _ _ q1 e))
    refine wpAny_bind (nextB_end hh (S2.keep fun o e => k3 _ o D.i2z D.TOi2.symm D.i12.symm e) (h2.keep fun o e => k3 _ o D.l2z D.l2TO D.l2i1 e) hy fun g4 e b4 ⟨oe, q1, q2⟩ => ?_)
    have z4 : IsZip g4 z TI TO .ellipsis := b4 _ _ D.i2z.symm (b3.extBut _ _ D.TOz.symm (b2.extBut _ _ D.i1z.symm z1))
    have ne : e ≠ z := fun q => by subst q; rw [z4] at q1; cases q1; simp at q2
    exact wpAny_setField_rec z4 (by simp) fun g5 _ b5 => hE g5 e (fun c o c1 c2 c3 c4 q => b5.extBut _ _ c1 (b4 _ _ c4 (k3 c o c1 c2 c3 q))) ⟨oe, b5.extBut _ _ ne q1, q2⟩
end
/-- the items of both, at each turn, in new pairs -/
def ItzB (t t2 : Bool) (K : PySem.W.Frag) (a b : Addr) : L2.It :=
  ⟨fun i H => ∃ (xs ys : List V) (x y : V), sqB t K H a xs ∧ sqB t2 K H b ys ∧ xs[i]? = some x ∧ ys[i]? = some y,
    fun i H v H' => ∃ T x y, v = .ref T ∧ H T = none ∧ H' = upd H T (.tup [x, y]) ∧ (∀ xs, sqB t K H a xs → xs[i]? = some x) ∧ ∀ ys, sqB t2 K H b ys → ys[i]? = some y,
    fun i H => ∃ xs ys : List V, sqB t K H a xs ∧ sqB t2 K H b ys ∧ (xs.length ≤ i ∨ ys.length ≤ i)⟩
theorem turn_zipB {t t2 : Bool} {P : Program} {w : World} {K : PySem.W.Frag} {elts : List Expr} {kk : Nat} {tpos : Pos} {a b z TI TO i1 i2 : Addr} (D : ZipApart z TI TO i1 i2 a b) :
    L2.Turn P w K (.Tuple elts kk tpos) (ItzB t t2 K a b) [z, TI, TO, i1, i2] z (fun i h => Zst t t2 z TI TO i1 i2 a b i h) where
  mem := by simp
  obj := fun i h st c hc => by
    obtain ⟨o1, f1, e1, d1⟩ := st.i1.obj
    obtain ⟨o2, f2, e2, d2⟩ := st.i2.obj
    obtain ⟨x, y, hTO⟩ := st.to
    have e' : c = z ∨ c = TI ∨ c = TO ∨ c = i1 ∨ c = i2 := by simpa using hc
    rcases e' with rfl | rfl | rfl | rfl | rfl
    · exact ⟨_, st.zp, fun v q => nomatch q⟩
    · exact ⟨_, st.ti, fun v q => nomatch q⟩
    · exact ⟨_, hTO, fun v q => nomatch q⟩
    · exact ⟨o1, e1, fun v q => by rw [d1] at q; cases q⟩
    · exact ⟨o2, e2, fun v q => by rw [d2] at q; cases q⟩
  keep := fun i h h' st k => by
    obtain ⟨x, y, hTO⟩ := st.to
    exact ⟨k z (by simp) _ st.zp, k TI (by simp) _ st.ti, ⟨x, y, k TO (by simp) _ hTO⟩, st.i1.keep fun o q => k i1 (by simp) o q, st.i2.keep fun o q => k i2 (by simp) o q⟩
  item := by
    intro X hP hw hK hc i pins s σ H E I hf st hg
    subst hP hw hK
    obtain ⟨xs, ys, x, y, hqx, hqy, hx, hy⟩ := hg
    obtain ⟨its, rv, p⟩ := hqx.at_ I
    obtain ⟨its2, rv2, p2⟩ := hqy.at_ I
    obtain ⟨u, hu, ru⟩ := rv.get hx
    obtain ⟨u2, hu2, ru2⟩ := rv2.get hy
    have hzl : z < s.heap.objs.size := Heap.lt_size st.zp
    have hT : s.TypeIs (.ref z) "zip" := ⟨_, st.zp, rfl⟩
    unfold pyNext
    refine wpAny_bind (wpAny_attempt (wpAny_callSpecial?_slot (name := Str.ofString "__next__") hT F.slot_zip_next (wpAny_call_entry F.slot_zip_next hT F.entry_zip_next
      (zipB_item D st p p2 (x := u) (y := u2) (by simpa using hu) (by simpa using hu2) fun h' z' ti' to' h1' h2' hT' hk => wpAny_pure ?_) (F.args_zip_next_1 _))))
    refine ⟨_, rfl, wpAny_letOwnedTupleGo_zip (s := { s with heap := h' }) z' fun h'' z'' sb => ?_⟩
    obtain ⟨a', b', to'⟩ := to'
    have hT2 : h''.get? s.heap.objs.size = some { cls := .type "tuple", data := .seq #[u, u2] } := (sb.2 _ (Nat.ne_of_gt hzl)).trans hT'
    have new : ObjOk X.prog X.w (upd H s.heap.objs.size (.tup [x, y])) h'' s.heap.objs.size (.tup [x, y]) :=
      ⟨by show 2 ≤ sizeLine; decide, [u, u2], .cons ru (.cons ru2 .nil), ⟨_, hT2, rfl, _, rfl⟩⟩
    have I1 : Inv X pins σ (upd H s.heap.objs.size (.tup [x, y])) { s with heap := h'' } :=
      I.turnedNew (t' := s.toks) (ch := [z, TI, TO, i1, i2]) (fun c o hb q => (sb.2 c (fun q' => hb (by simp [q']))).trans (hk c o (fun q' => hb (by simp [q'])) (fun q' => hb (by simp [q'])) (fun q' => hb (by simp [q'])) (fun q' => hb (by simp [q'])) q)) hf (Nat.le_refl _) new
    have up : ∀ c o, c ≠ z → h'.get? c = some o → h''.get? c = some o := fun c o q e => (sb.2 c q).trans e
    refine ⟨.ref s.heap.objs.size, _, I1, rfl, ⟨_, x, y, rfl, I.hok.fresh (Nat.le_refl _), rfl, fun l hl => by rw [hl.inj I hqx]; exact hx, fun l hl => by rw [hl.inj I hqy]; exact hy⟩,
      ⟨z'', up _ _ D.TIz ti', ⟨a', b', up _ _ D.TOz to'⟩, h1'.keep fun o e => up _ o D.i1z e, h2'.keep fun o e => up _ o D.i2z e⟩, fun c hcm => ?_⟩
    have hlt : c < s.heap.objs.size := by
      obtain ⟨x', y', hTO⟩ := st.to
      obtain ⟨_, _, e1, _⟩ := st.i1.obj
      obtain ⟨_, _, e2, _⟩ := st.i2.obj
      have e' : c = z ∨ c = TI ∨ c = TO ∨ c = i1 ∨ c = i2 := by simpa using hcm
      rcases e' with rfl | rfl | rfl | rfl | rfl
      · exact hzl
      · exact Heap.lt_size st.ti
      · exact Heap.lt_size hTO
      · exact Heap.lt_size e1
      · exact Heap.lt_size e2
    rw [upd_ne (Nat.ne_of_lt hlt)]
    exact (hf c hcm).1
  done := by
    intro X hP hw hK hc i pins s σ H E I hf st hg
    subst hP hw hK
    obtain ⟨xs, ys, hqx, hqy, hend⟩ := hg
    obtain ⟨its, rv, p⟩ := hqx.at_ I
    obtain ⟨its2, rv2, p2⟩ := hqy.at_ I
    have l1 := rv.length
    have l2 := rv2.length
    have he : its.toArray[i]? = none ∨ its2.toArray[i]? = none := by
      rcases hend with q | q
      · exact .inl (by simp; omega)
      · exact .inr (by simp; omega)
    have hT : s.TypeIs (.ref z) "zip" := ⟨_, st.zp, rfl⟩
    unfold pyNext
    refine wpAny_bind (wpAny_attempt (wpAny_callSpecial?_slot (name := Str.ofString "__next__") hT F.slot_zip_next (wpAny_call_entry F.slot_zip_next hT F.entry_zip_next
      (zipB_end (I.ok.hd hc) D st p p2 he fun h' e hk ⟨o, ho, hc'⟩ => ?_) (F.args_zip_next_1 _))))
    refine wpAny_bind (wpAny_isInstance (T := "StopIteration") (b := true) ⟨o, ho, hc'⟩ isSubtype_stop (wpAny_pure ⟨rfl, ?_⟩))
    exact I.turnedL (t' := s.toks) (ch := [z, TI, TO, i1, i2]) (fun c o hb q => hk c o (fun q' => hb (by simp [q'])) (fun q' => hb (by simp [q'])) (fun q' => hb (by simp [q'])) (fun q' => hb (by simp [q'])) q) hf
  self := fun A i s Q E st h => wpAny_pyIter_zip st.zp h
/-- the objects that zip(l1, l2) lays -/
abbrev zB1 (t : Bool) (h : Heap) (l1 : Addr) : Heap := h.push { cls := .type (clB t), data := .fields #[.ref l1, .int 0 0] }
abbrev zB2 (t t2 : Bool) (h : Heap) (l1 l2 : Addr) : Heap := zB1 t2 (zB1 t h l1) l2
abbrev zB3 (t t2 : Bool) (h : Heap) (l1 l2 : Addr) : Heap := (zB2 t t2 h l1 l2).push { cls := .type "tuple", data := .seq #[.ref h.objs.size, .ref (zB1 t h l1).objs.size] }
abbrev zB4 (t t2 : Bool) (h : Heap) (l1 l2 : Addr) : Heap := (zB3 t t2 h l1 l2).push { cls := .type "tuple", data := .seq #[.none, .none] }
abbrev zB5 (t t2 : Bool) (h : Heap) (l1 l2 : Addr) : Heap := (zB4 t t2 h l1 l2).push { cls := .type "zip", data := .fields #[.none, .bool false, .bool false, .ref (zB2 t t2 h l1 l2).objs.size, .ref (zB3 t t2 h l1 l2).objs.size] }
theorem meets_zipB (t t2 : Bool) (l1 l2 : Addr) (xs ys : Array Value) :
    Meets (Builtin.«zip.__new__» ⟨[.type "zip", .ref l1, .ref l2], []⟩) (fun _ R s => isB t s.heap l1 xs ∧ isB t2 s.heap l2 ys ∧ R (.ok (.ret (.ref (zB4 t t2 s.heap l1 l2).objs.size))) { s with heap := zB5 t t2 s.heap l1 l2 }) :=
  .of_wp fun prog w A R s h => by
    obtain ⟨hp, g, d, tk, os⟩ := s
    obtain ⟨h1, h2, h⟩ := h
    have hsub := sub_zip
    have hL1 : isB t (Shared.heap ⟨hp, g, d, tk, os⟩) l1 xs := h1
    have hL2 : isB t2 (Shared.heap ⟨zB1 t hp l1, g, d, tk, os⟩) l2 ys := h2.keep fun o e => Heap.get?_push_of_some _ e
    wp_walk using iterB hL1, iterB hL2
    exact ⟨_, rfl, h⟩
section
variable {prog : Program} {w : World} {A : Around} {E : Value → Shared → Prop} {s : Shared} {t t2 : Bool}
theorem call_zipB {l1 l2 : Addr} {xs ys : Array Value} {Q : Value → Shared → Prop} (h1 : isB t s.heap l1 xs) (h2 : isB t2 s.heap l2 ys)
    (h : ∀ h', Zst t t2 (s.heap.objs.size + 4) (s.heap.objs.size + 2) (s.heap.objs.size + 3) s.heap.objs.size (s.heap.objs.size + 1) l1 l2 0 h' → (∀ c o, s.heap.get? c = some o → h'.get? c = some o) → Q (.ref (s.heap.objs.size + 4)) { s with heap := h' }) :
    wpAny (model prog w) A (call (.type "zip") [.ref l1, .ref l2]) Q E s := by
  refine callType_new F.called_zip (by decide) (F.typeCall_zip_2 _ _) (F.newCall_zip_2 _ _) (fun obj => F.args_object_init_3 obj _ _) F.entry_zip_new (meets_zipB t t2 l1 l2 xs ys) ⟨h1, h2, ?_⟩
  have n1 : (zB1 t s.heap l1).objs.size = s.heap.objs.size + 1 := Heap.size_push ..
  have n2 : (zB2 t t2 s.heap l1 l2).objs.size = s.heap.objs.size + 2 := by rw [Heap.size_push, n1]
  have n3 : (zB3 t t2 s.heap l1 l2).objs.size = s.heap.objs.size + 3 := by rw [Heap.size_push, n2]
  have n4 : (zB4 t t2 s.heap l1 l2).objs.size = s.heap.objs.size + 4 := by rw [Heap.size_push, n3]
  have p : ∀ {c o} {h : Heap} {o'}, h.get? c = some o → (h.push o').get? c = some o := fun e => Heap.get?_push_of_some _ e
  have q5 : (zB5 t t2 s.heap l1 l2).get? (zB4 t t2 s.heap l1 l2).objs.size = some _ := Heap.get?_push_size _ rfl
  have q4 : (zB5 t t2 s.heap l1 l2).get? (zB3 t t2 s.heap l1 l2).objs.size = some _ := p (Heap.get?_push_size _ rfl)
  have q3 : (zB5 t t2 s.heap l1 l2).get? (zB2 t t2 s.heap l1 l2).objs.size = some _ := p (p (Heap.get?_push_size _ rfl))
  have q2 : (zB5 t t2 s.heap l1 l2).get? (zB1 t s.heap l1).objs.size = some _ := p (p (p (Heap.get?_push_size _ rfl)))
  have q1 : (zB5 t t2 s.heap l1 l2).get? s.heap.objs.size = some _ := p (p (p (p (Heap.get?_push_size _ rfl))))
  show _ ∧ _
  rw [n2, n3, n4] at q5
  rw [n1, n2] at q3
  rw [n3] at q4
  rw [n1] at q2
  rw [n4]
  refine ⟨⟨_, q5, rfl⟩, h _ ⟨q5, q3, ⟨_, _, q4⟩, ?_, ?_⟩ fun c o x => p (p (p (p (p x))))⟩
  · cases t with
    | false => exact ⟨_, q1, rfl, rfl⟩
    | true => exact ⟨_, q1, rfl, rfl⟩
  · cases t2 with
    | false => exact ⟨_, q2, rfl, rfl⟩
    | true => exact ⟨_, q2, rfl, rfl⟩
end
def iZipB (t t2 : Bool) (K : PySem.W.Frag) (ta : TA) : L2.TI := fun σ H R => ta σ H fun vs H1 => ∃ a b xs ys, vs = [.ref a, .ref b] ∧ sqB t K H1 a xs ∧ sqB t2 K H1 b ys ∧ R (ItzB t t2 K a b) H1
theorem pi_zipB {t t2 : Bool} {X : Cy} {e e2 : Expr} {ta : TA} {p pos tpos : Pos} {elts : List Expr} {kk : Nat} (hg : Gl X "zip") (hm : X.mg "zip" = none) (ha : PA X [e, e2] ta)
    (hs : starEach [e, e2] X.env = (false, eval e X.env) :: starEach [e2] X.env := by rfl) (hpl : (backTo pos (starEach [e2] X.env)).any (·.1) = false := by rfl) :
    PI X (.Tuple elts kk tpos) (.Call (.Name "zip" p) [e, e2] [] pos) (iZipB t t2 X.K ta) := by
  refine ⟨fun pins s σ H R I h => ?_⟩
  refine PyProof.Rows.Call_ (ld_blt I hg hm PyProof.Rows.boot_zip (PyProof.Rows.callWith_type1 (thn (ha.run pos pins s σ H _ I h) fun us s1 ⟨vs, H1, I1, r1, q1⟩ => ?_) hs hpl))
  obtain ⟨a, b, xs, ys, rfl, hx, hy, q⟩ := q1
  cases r1 with
  | cons r rr =>
    cases rr with
    | cons r' rr =>
      cases rr
      cases r
      cases r'
      obtain ⟨its, rv, p1⟩ := hx.at_ I1
      obtain ⟨its2, rv2, p2⟩ := hy.at_ I1
      refine call_zipB p1 p2 fun h' st hk => wpAny_pyIter_zip st.zp ?_
      have I2 : Inv X pins σ H1 { s1 with heap := h' } := I1.kept (t' := s1.toks) hk
      refine ⟨s1.heap.objs.size + 4, [s1.heap.objs.size + 4, s1.heap.objs.size + 2, s1.heap.objs.size + 3, s1.heap.objs.size, s1.heap.objs.size + 1], _, _, H1, rfl, I2, turn_zipB (PySem.W.ktu_apart s1.heap.objs.size a b p1.lt p2.lt), st, fun c hcm => ?_, q⟩
      have hle : s1.heap.objs.size ≤ c := by
        have e' : c = s1.heap.objs.size + 4 ∨ c = s1.heap.objs.size + 2 ∨ c = s1.heap.objs.size + 3 ∨ c = s1.heap.objs.size ∨ c = s1.heap.objs.size + 1 := by simpa using hcm
        rcases e' with rfl | rfl | rfl | rfl | rfl
        all_goals first | exact Nat.le_add_right _ _ | exact Nat.le_refl _
      have := I1.fpOk hle (I1.hok.fresh hle)
      exact this
section
variable {X : Cy} {e f : Expr} {ρ : Rho} {μ : Mu} {pos p tpos : Pos}
theorem seqB_of {t : Bool} {K : PySem.W.Frag} {F H : Hp} {v : V} {d : D} {xs : List D} (ex : Ex F H) (r : Rep K F v d) (h : d = if t then .tup xs else .lst xs) : ∃ a vs, v = .ref a ∧ sqB t K H a vs ∧ Reps K F vs xs := by
  cases t with
  | false =>
    subst h
    cases r with
    | lst g rx => exact ⟨_, _, rfl, Evl.sq_of (ex _ _ g), rx⟩
  | true =>
    subst h
    cases r with
    | tup g rx => exact ⟨_, _, rfl, Evl.st_of (ex _ _ g), rx⟩
theorem wi_zipB (t t2 : Bool) {elts : List Expr} {kk : Nat} {ΦI : List D → Mu → Prop} (hm : X.mg "zip" = none) (h : wE X e ρ μ fun d1 μ1 => wE X f ρ μ1 fun d2 μ2 => ∃ xs ys, (d1 = if t then .tup xs else .lst xs) ∧ (d2 = if t2 then .tup ys else .lst ys) ∧ ΦI (zipD xs ys) μ2) (hg : Gl X "zip" := by rfl)
    (hs : starEach [e, f] X.env = (false, eval e X.env) :: starEach [f] X.env := by rfl) (hs2 : starEach [f] X.env = [(false, eval f X.env)] := by rfl) (hpl : (backTo pos (starEach [f] X.env)).any (·.1) = false := by rfl) :
    wI X (.Tuple elts kk tpos) (.Call (.Name "zip" p) [e, f] [] pos) ρ μ ΦI := fun F σ H hh sl R kt =>
  si_of (pi_zipB (t := t) (t2 := t2) hg hm (pa_cons pe_s (pa_cons pe_s pa_nil hs2) hs) hs hpl) (h F σ H hh sl _ fun v F1 H1 d μ1 q1 e1 hs1 r1 => q1 F1 σ H1 hs1 (sl.mono e1) _ fun v2 F2 H2 d2 μ2 ⟨xs, ys, h1, h2, q⟩ e2 hs2 r2 => by
    obtain ⟨a, vs, rfl, g, r⟩ := seqB_of hs2.ex (r1.mono e2) h1
    obtain ⟨b, ws, rfl, g2, r2'⟩ := seqB_of hs2.ex r2 h2
    refine ⟨a, b, vs, ws, rfl, g, g2, kt _ _ F2 μ2 H2 q (e1.trans e2) hs2 fun i F' μ' H' e' hs' => ?_⟩
    obtain ⟨a', vs', e3, g', r'⟩ := seqB_of hs'.ex ((r1.mono e2).mono e') h1
    obtain ⟨b', ws', e4, g2', r2''⟩ := seqB_of hs'.ex (r2.mono e') h2
    cases e3
    cases e4
    have l1 := r'.length
    have l2 := r2''.length
    rw [zipD_len]
    refine ⟨fun hi => ⟨vs', ws', vs'[i]'(by omega), ws'[i]'(by omega), g', g2', List.getElem?_eq_getElem _, List.getElem?_eq_getElem _⟩, fun hi => ⟨vs', ws', g', g2', by omega⟩, fun x H3 d hy hd => ?_⟩
    obtain ⟨T, y1, y2, rfl, hT, rfl, f1, f2⟩ := hy
    obtain ⟨x1, x2, hx1, hx2, rfl⟩ := zipD_get hd
    obtain ⟨z1, k1, k2⟩ := r'.get hx1
    obtain ⟨z2, k3, k4⟩ := r2''.get hx2
    cases (f1 _ g').symm.trans k1
    cases (f2 _ g2').symm.trans k3
    obtain ⟨q1, q2⟩ := hs'.laid (u := .tup [y1, y2]) hT
    exact ⟨_, q2, q1, .tup upd_same (.cons (k2.mono q2) (.cons (k4.mono q2) .nil))⟩)
end
end Oc

/-! Own layer: the order of nested data; a tuple's last item; a slice without the last one. -/
namespace Oc
open PySem PySem.Spec L2
open Evl (Ex)
def rDB (K : PySem.W.Frag) (f : PyData → PyData → Bool) : R2 := fun x y H Q => ∃ d e, Dp K H x d ∧ Dp K H y e ∧ PySem.W.alike d e = true ∧ d ≠ .none ∧ min d.depth e.depth ≤ 60 ∧ Q (.bl (f d e)) H
section
variable {X : Cy} {μ : Mu} {Φ : D → Mu → Prop} {d d1 d2 : D} {n m : Nat}
theorem op_gtD (hu : X.c.A.units + 64 < cLine) : OpR X (compareOp .Gt) (rDB X.K fun d e => PySem.W.dataLt e d) := by
  intro pins s σ H x y v u Q I rx ry h
  obtain ⟨d, e, hd, he, al, hn, hm, q⟩ := h
  obtain ⟨as, r1⟩ := Dp.reads I d x v hd rx
  obtain ⟨bs, r2⟩ := Dp.reads I e y u he ry
  exact PySem.W.gt_data r1 r2 al hn (by omega) ⟨.bl _, H, I, rfl, q⟩
theorem op_ltD (hu : X.c.A.units + 64 < cLine) : OpR X (compareOp .Lt) (rDB X.K fun d e => PySem.W.dataLt d e) := by
  intro pins s σ H x y v u Q I rx ry h
  obtain ⟨d, e, hd, he, al, hn, hm, q⟩ := h
  obtain ⟨as, r1⟩ := Dp.reads I d x v hd rx
  obtain ⟨bs, r2⟩ := Dp.reads I e y u he ry
  exact PySem.W.lt_data r1 r2 al hn (by omega) ⟨.bl _, H, I, rfl, q⟩
theorem ly_depth {d : D} {n : Nat} (h : Ly d n) : d.py.depth ≤ n := h.dp
theorem o_gtY (hu : X.c.A.units + 64 < cLine) (h1 : Ly d1 n) (h2 : Ly d2 m) (al : PySem.W.alike d1.py d2.py = true) (hn : d1.py ≠ .none) (k : Φ (.bl (PySem.W.dataLt d2.py d1.py)) μ) (hn1 : n ≤ 60 := by decide) : wOp X (compareOp .Gt) d1 d2 μ Φ :=
  wop_of (op_gtD hu) fun F H u v hs r1 r2 Q kt =>
  ⟨_, _, rep_py hs.ex r1 h1.st, rep_py hs.ex r2 h2.st, al, hn, by have := ly_depth h1; omega, kt.now k hs (.bl _)⟩
theorem o_ltY (hu : X.c.A.units + 64 < cLine) (h1 : Ly d1 n) (h2 : Ly d2 m) (al : PySem.W.alike d1.py d2.py = true) (hn : d1.py ≠ .none) (k : Φ (.bl (PySem.W.dataLt d1.py d2.py)) μ) (hn1 : n ≤ 60 := by decide) : wOp X (compareOp .Lt) d1 d2 μ Φ :=
  wop_of (op_ltD hu) fun F H u v hs r1 r2 Q kt =>
  ⟨_, _, rep_py hs.ex r1 h1.st, rep_py hs.ex r2 h2.st, al, hn, by have := ly_depth h1; omega, kt.now k hs (.bl _)⟩
theorem ix_tupN {ds l : List D} (hd : ds = l ++ [d]) (k : Φ d μ) : wIx X (.tup ds) (.int (-1)) μ Φ := wix_of ix_tup fun F H x y hs r1 r2 Q kt => by
  subst hd
  cases r2
  cases r1 with
  | tup g q =>
    have hsp : ∀ {xs : List V} {l : List D} {d : D}, Reps X.K F xs (l ++ [d]) → ∃ ys v, xs = ys ++ [v] ∧ Rep X.K F v d := fun {xs l d} r => by
      induction l generalizing xs with
      | nil =>
        cases r with
        | cons r rr => cases rr; exact ⟨[], _, rfl, r⟩
      | cons a l ih =>
        cases r with
        | cons r rr =>
          obtain ⟨ys, v, h1, h2⟩ := ih rr
          exact ⟨_ :: ys, v, by rw [h1]; rfl, h2⟩
    obtain ⟨ys, v, rfl, rv⟩ := hsp q
    exact ⟨_, _, _, v, rfl, rfl, Evl.st_of (hs.ex _ _ g), atI_last, kt.now k hs rv⟩
end
theorem cutD_init (l : List D) (x : D) : cutD (l ++ [x]) none (some (-1)) = l := by
  unfold cutD
  rw [HT.sIx_none, List.drop_zero, Nat.sub_zero]
  have e : HT.sIx (l ++ [x]).length (l ++ [x]).length (some (-1)) = l.length := by
    show (if (-1 : Int) < 0 then ((-1 : Int) + ((l ++ [x]).length : Int)).toNat else min (-1 : Int).toNat (l ++ [x]).length) = l.length
    rw [if_pos (by decide), List.length_append]
    show (-1 + ((l.length + 1 : Nat) : Int)).toNat = l.length
    omega
  rw [e, List.take_append_of_le_length (Nat.le_refl _), List.take_length]
/-! the order of numbers in rows -/
theorem alike_rowI : ∀ u v : List Nat, PySem.W.alikeAll (D.pys (u.map fun a : Nat => D.int a)) (D.pys (v.map fun a : Nat => D.int a)) = true
  | [], _ => by simp [D.pys, PySem.W.alikeAll]
  | _ :: _, [] => by simp [D.pys, PySem.W.alikeAll]
  | a :: u, b :: v => by
    rw [List.map_cons, List.map_cons]
    simp only [D.pys, D.py, PySem.W.alikeAll, PySem.W.alike, Bool.true_and]
    exact alike_rowI u v
abbrev rowTk (u : List Nat) : List PyData := D.pys (u.map fun a : Nat => D.int a)
theorem lt_head {a b : Nat} (u v : List Nat) (h : a < b) : PyProof.Rows.lexLt PyProof.Rows.itemOrd (PySem.W.keyToksAll (rowTk (a :: u))) (PySem.W.keyToksAll (rowTk (b :: v))) = true := by
  have e : PyData.eqv (.int a) (.int b) = false := by
    show ((a : Int) == (b : Int)) = false
    rw [beq_eq_false_iff_ne]
    omega
  show PyProof.Rows.lexLt PyProof.Rows.itemOrd (PySem.W.keyToksAll (D.pys (D.int a :: u.map fun a : Nat => D.int a))) (PySem.W.keyToksAll (D.pys (D.int b :: v.map fun a : Nat => D.int a))) = true
  simp only [D.pys, D.py]
  rw [PySem.W.dataLt_all_no rfl e, PySem.W.dataLt_int]
  exact decide_eq_true (by omega)
theorem lt_tail {a : Nat} (u v : List Nat) : PyProof.Rows.lexLt PyProof.Rows.itemOrd (PySem.W.keyToksAll (rowTk (a :: u))) (PySem.W.keyToksAll (rowTk (a :: v))) = PyProof.Rows.lexLt PyProof.Rows.itemOrd (PySem.W.keyToksAll (rowTk u)) (PySem.W.keyToksAll (rowTk v)) := by
  have e : PyData.eqv (.int a) (.int a) = true := by
    show ((a : Int) == (a : Int)) = true
    rw [beq_iff_eq]
  show PyProof.Rows.lexLt PyProof.Rows.itemOrd (PySem.W.keyToksAll (D.pys (D.int a :: u.map fun a : Nat => D.int a))) (PySem.W.keyToksAll (D.pys (D.int a :: v.map fun a : Nat => D.int a))) = _
  simp only [D.pys, D.py]
  exact PySem.W.dataLt_all_yes rfl e
abbrev lenRow (u : List Nat) : D := .tup [.int (u.length : Nat), .tup (u.map fun a : Nat => .int a)]
theorem alike_lenRow (u v : List Nat) : PySem.W.alike (lenRow u).py (lenRow v).py = true := by
  simp only [D.py, D.pys, PySem.W.alike, PySem.W.alikeAll, Bool.true_and, Bool.and_true]
  exact alike_rowI u v
theorem lt_lenRow_len {u v : List Nat} (h : u.length < v.length) : PySem.W.dataLt (lenRow u).py (lenRow v).py = true := by
  simp only [D.py, D.pys]
  rw [PySem.W.dataLt_tuple, PySem.W.dataLt_all_no rfl (by show ((u.length : Int) == (v.length : Int)) = false; rw [beq_eq_false_iff_ne]; omega), PySem.W.dataLt_int]
  exact decide_eq_true (by omega)
theorem lt_lenRow_same {u v : List Nat} (h : u.length = v.length) : PyProof.Rows.lexLt PyProof.Rows.itemOrd (PySem.W.keyToksAll (rowTk u)) (PySem.W.keyToksAll (rowTk v)) = true → PySem.W.dataLt (lenRow u).py (lenRow v).py = true := by
  intro hh
  simp only [D.py, D.pys]
  rw [PySem.W.dataLt_tuple, PySem.W.dataLt_all_yes rfl (by show ((u.length : Int) == (v.length : Int)) = true; rw [beq_iff_eq, h])]
  have hne : PyData.eqv (PyData.tuple (rowTk u)) (PyData.tuple (rowTk v)) = false := by
    cases e : PyData.eqv (PyData.tuple (rowTk u)) (PyData.tuple (rowTk v)) with
    | false => rfl
    | true =>
      have := ((PySem.W.toks_eqv (.tuple (rowTk u)) (.tuple (rowTk v)) (by simp only [PySem.W.alike]; exact alike_rowI u v)).1 e)
      simp only [PySem.W.keyToks] at this
      rw [this] at hh
      rw [PyProof.Rows.lex_irrefl] at hh
      cases hh
  rw [PySem.W.dataLt_all_no (by simp only [PySem.W.alike]; exact alike_rowI u v) hne, PySem.W.dataLt_tuple]
  exact hh
end Oc

/-! Own layer: a list inside a tuple; comprehensions over a cell. -/
namespace Oc
open PySem PySem.Spec L2
open Evl (Ex)
section
variable {X : Cy} {e : Expr} {ρ : Rho} {μ : Mu} {Φ : D → Mu → Prop} {d1 d2 : D}
/-- a list made here that is a pair's second thing stands still behind e -/
theorem w_fzT2 (h : wE X e ρ μ fun d μ1 => (∃ s p ds μ2, d = .tup [s, .ptr p] ∧ μ1 = (p, .lst ds) :: μ2 ∧ Φ (.tup [s, .lst ds]) μ2) ∨ Φ d μ1) : wE X e ρ μ Φ := fun F σ H hs sl Q kt =>
  h F σ H hs sl Q fun v F1 H1 d μ1 q x1 hs1 r => by
    rcases q with ⟨s, p, ds, μ2, rfl, rfl, q⟩ | q
    · obtain ⟨F2, x2, hs2, r2⟩ := hs1.freeze (i := 0) rfl
      refine kt _ F2 H1 _ _ q (x1.trans x2) hs2 ?_
      have r' := r.mono x2
      cases r' with
      | tup g rq =>
        cases rq with
        | cons ra rq =>
          cases rq with
          | cons rb rq =>
            cases rq
            cases rb
            exact .tup g (.cons ra (.cons r2 .nil))
    · exact kt _ F1 H1 _ _ q x1 hs1 r
theorem o_neTP {s : Str} {q : Addr} {ds : List D} {n m : Nat} (i : Nat) (hm : μ[i]? = some (q, MO.lst ds)) (hu : X.c.A.units + 64 < cLine) (h1 : Lys ds n) (h2 : Ly d2 m) (k : Φ (.bl (!PyData.eqv (D.tup [.str s, .lst ds]).py d2.py)) μ) (hn : n ≤ 60 := by decide) (hk : m ≤ 60 := by decide) (hz : PyData.strOk s = true := by rfl) :
    wOp X (compareOp .NotEq) (.tup [.str s, .ptr q]) d2 μ Φ := wop_of (op_neD hu) fun F H u v hs r1 r2 Q kt => by
  obtain ⟨xs, gx, rx⟩ := hs.lst hm
  have e : (D.lst ds).py = .list (D.pys ds) := by simp only [D.py]
  have hp : Dp X.K H (.ref q) (D.lst ds).py := by rw [e]; exact .lst (Evl.sq_of gx) (reps_py hs.ex rx h1.st)
  have e2 : (D.tup [.str s, .lst ds]).py = .tuple [.str s, (D.lst ds).py] := by simp only [D.py, D.pys]
  have hl : Ly (D.tup [.str s, .lst ds]) (n + 2) := ⟨by simp only [D.still, D.stills, h1.st]; rfl, by simp only [D.py, D.pys, PyData.canLay0, PyData.canLayAll0, h1.lay, hz]; rfl, by have := h1.dp; simp only [D.py, D.pys, PyData.depth, PyData.depthAll]; omega⟩
  cases r1 with
  | tup g rq =>
    cases rq with
    | cons ra rq =>
      cases rq with
      | cons rb rq =>
        cases rq
        cases ra
        cases rb
        refine ⟨_, _, ?_, rep_py hs.ex r2 h2.st, hl.shaped (by omega), h2.shaped (by omega), kt.now k hs (.bl _)⟩
        rw [e2]
        exact .tup (Evl.st_of (hs.ex _ _ g)) (.cons (.str _) (.cons hp .nil))
end
section
variable {X : Cy} {elt tg iter : Expr} {ifs : List Expr} {scope : Scope} {t : Tg} {vs : List Nat} {ρ : Rho} {μ μ1 : Mu} {Φ : D → Mu → Prop} {its : List D} {P : Mu → Prop} {pos : Pos} {e : Expr}
/-- the cell of the list that is gone through -/
theorem wi_ptr' {tg : Expr} {ΦI : List D → (Mu → Prop) → Mu → Prop} (h : wE X e ρ μ fun d μ1 => ∃ q, d = .ptr q ∧ ∃ (m : Nat) (ds : List D), μ1[m]? = some (q, MO.lst ds) ∧ ΦI ds (fun μ' => ∃ m : Nat, μ'[m]? = some (q, MO.lst ds)) μ1) : wIP X tg e ρ μ ΦI :=
  wi_ptr (w_mono h fun d μ1 ⟨q, hd, m, ds, hm, k⟩ => ⟨q, ds, hd, ⟨m, hm⟩, k⟩)
abbrev LcQP (X : Cy) (elt : Expr) (ifs : List Expr) (scope : Scope) (t : Tg) (vs : List Nat) (ρ : Rho) (Φ : D → Mu → Prop) (its : List D) (P : Mu → Prop) (μ1 : Mu) : Prop :=
  its.length ≤ 1000000 ∧ ∃ Iv : Nat → List D → Mu → Prop, Iv 0 [] μ1 ∧ (∀ p i acc μ2, Iv i acc μ2 → P ((p, .lst acc) :: μ2)) ∧
    (∀ p i x acc μ2, its[i]? = some x → Iv i acc μ2 → ∃ ρ', t.put x (wipeR ρ vs) = some ρ' ∧ ∀ s H C cl fp, wTs (blkE X scope s H C cl fp) ifs ρ' ((p, .lst acc) :: μ2) fun k μ4 =>
      (k = true → ∀ s H C cl fp, wE (blkE X scope s H C cl fp) elt ρ' μ4 fun d μ5 => ∃ μ6, μ5 = (p, .lst acc) :: μ6 ∧ Iv (i + 1) (acc ++ [d]) μ6) ∧ (k = false → ∃ μ6, μ4 = (p, .lst acc) :: μ6 ∧ Iv (i + 1) acc μ6)) ∧
    (∀ p acc μ2, Iv its.length acc μ2 → Φ (.ptr p) ((p, .lst acc) :: μ2))
def LcWP (X : Cy) (elt tg iter : Expr) (ifs : List Expr) (scope : Scope) (t : Tg) (vs : List Nat) (ρ : Rho) (μ : Mu) (Φ : D → Mu → Prop) : Prop :=
  wIP X tg iter ρ μ fun its P μ1 => LcQP X elt ifs scope t vs ρ Φ its P μ1
theorem lcWP_of (h : wIP X tg iter ρ μ fun its P μ1 => LcQP X elt ifs scope t vs ρ Φ its P μ1) : LcWP X elt tg iter ifs scope t vs ρ μ Φ := h
theorem lc_tP (hv : ∀ j ∈ t.slots, j ∈ vs) (h : LcWP X elt tg iter ifs scope t vs ρ μ Φ) {F : Hp} {σ : L2.St} {H : Hp} (hs : Hs X.K F μ H) (sl : Sl X.K F ρ σ) {Q : VK} (kt : Kont X.K F Φ Q) :
    tLc (sI X tg iter) (t.g X.K) (sTsF X scope ifs) (sEF X scope elt) vs σ H Q := by
  refine h F σ H hs sl _ fun J its P F1 μ1 H1 ⟨hz, Iv, h0, hP, ht, hd⟩ e1 hs1 wk Dl hD => ?_
  refine ⟨fun i m H' => m = its.length - i ∧ i ≤ its.length ∧ ∃ F' acc μ', Ex F1 F' ∧ Hs X.K F' ((Dl, .lst acc) :: μ') H' ∧ acc.length ≤ i ∧ Iv i acc μ', ⟨its.length, by simp, Nat.zero_le _, F1, [], μ1, Ex.refl _, hs1.cell hD (.lst .nil), Nat.le_refl _, h0⟩, ?_⟩
  rintro i m H' ⟨rfl, hi, F', acc, μ', e2, hs2, hl, iv⟩
  obtain ⟨w1, w2, w3⟩ := wk i F' _ H' e2 (hP Dl i acc μ' iv) hs2
  by_cases hlt : i < its.length
  · refine .inr ⟨w1 hlt, fun H3 => ∃ F3 acc3 μ3, Ex F1 F3 ∧ Hs X.K F3 ((Dl, .lst acc3) :: μ3) H3 ∧ acc3.length ≤ i + 1 ∧ Iv (i + 1) acc3 μ3, fun H3 q => ⟨its.length - (i + 1), by omega, rfl, hlt, q⟩, fun x H3 hy => ?_⟩
    have hx : its[i]? = some its[i] := List.getElem?_eq_getElem hlt
    obtain ⟨F3, e3, hs3, r3⟩ := w3 x H3 _ hy hx
    obtain ⟨ρ', hp, ht⟩ := ht Dl i _ acc μ' hx iv
    refine Tg.run hs3 ((sl.mono (e1.trans (e2.trans e3))).wipeL vs) r3 hv hp fun σ' hw sl' => ⟨hw, fun s' H' C cl fp => ?_⟩
    refine (ht s' H' C cl fp).go hs3 sl' fun k F4 H4 μ4 q4 e4 hs4 => ?_
    cases k with
    | true =>
      rw [if_pos rfl]
      refine fun s' H' C cl fp => q4.1 rfl s' H' C cl fp F4 σ' H4 hs4 (sl'.mono e4) _ fun v F5 H5 d μ5 ⟨μ6, h6, iv6⟩ e5 hs5 r5 => ?_
      subst h6
      obtain ⟨xs, hx5, rx5⟩ := hs5.lst (i := 0) rfl
      refine ⟨xs, hx5, Nat.lt_of_le_of_lt ?_ (show 1000000 < sizeLine by decide), F5, acc ++ [d], μ6, e2.trans (e3.trans (e4.trans e5)), hs5.write (i := 0) rfl (.lst (rx5.append (.one r5))), ?_, iv6⟩
      · rw [rx5.length]
        omega
      · rw [List.length_append]
        exact Nat.succ_le_succ hl
    | false =>
      rw [if_neg Bool.false_ne_true]
      obtain ⟨μ6, h6, iv6⟩ := q4.2 rfl
      subst h6
      exact ⟨F4, acc, μ6, e2.trans (e3.trans e4), hs4, Nat.le_succ_of_le hl, iv6⟩
  · have he : i = its.length := by omega
    subst he
    exact .inl ⟨w2 rfl, kt _ F' H' _ _ (hd Dl acc μ' iv) (e1.trans e2) hs2 (.ptr Dl)⟩
theorem w_lcMP {scope : Scope} {own : List (Str × Nat)} (t : Tg) (hv : ∀ j ∈ t.slots, j ∈ own.map (·.2)) (hc : X.calm = true) (hN : X.N.Nodup) (ok : BlkOk X.N X.env.scope scope own)
    (hg : ∀ s H C cl fp, PG (blkE X scope s H C cl fp) tg (t.g X.K)) (h : LcWP X elt tg iter ifs scope t (own.map (·.2)) ρ μ Φ) (hs : ∀ x, foldedSetIterable iter X.env x = pure x := by intro _; rfl) :
    wE X (.ListComp elt [⟨tg, iter, ifs, 0⟩] scope pos) ρ μ Φ := fun F σ H hh sl Q kt =>
  se_of (pe_lc hc hN pi_s ok hg (fun s H C cl fp => ⟨fun pins s' σ H Q I q => q s _ C cl fp pins s' I⟩) (fun s H C cl fp => ⟨fun pins s' σ H Q I q => q s _ C cl fp pins s' I⟩) hs) (lc_tP hv h hh sl kt)
theorem lcq_mapP {α : Type} (l : List α) (f : α → D) (g : α → D) (he : its = l.map f) (hl : l.length ≤ 1000000)
    (ht : ∀ (p : Addr) (i : Nat) (x : α), l[i]? = some x → ∃ ρ', t.put (f x) (wipeR ρ vs) = some ρ' ∧ ∀ s H C cl fp, wE (blkE X scope s H C cl fp) elt ρ' ((p, .lst ((l.take i).map g)) :: μ1) fun d μ5 => d = g x ∧ μ5 = (p, .lst ((l.take i).map g)) :: μ1)
    (hd : ∀ p, Φ (.ptr p) ((p, .lst (l.map g)) :: μ1)) (hP : ∀ p (acc : List D), P ((p, .lst acc) :: μ1) := by intro _ _; first | exact ⟨1, rfl⟩ | exact ⟨2, rfl⟩) : LcQP X elt [] scope t vs ρ Φ its P μ1 := by
  subst he
  refine ⟨by rw [List.length_map]; exact hl, fun i acc μ2 => acc = (l.take i).map g ∧ μ2 = μ1, ⟨rfl, rfl⟩, ?_, ?_, ?_⟩
  · rintro p i acc μ2 ⟨_, rfl⟩
    exact hP _ _
  · rintro p i x acc μ2 hx ⟨rfl, rfl⟩
    obtain ⟨y, hy, rfl⟩ := map_get' hx
    obtain ⟨ρ', h1, h2⟩ := ht p i y hy
    refine ⟨ρ', h1, fun _ _ _ _ _ => ⟨fun _ s H C cl fp => w_mono (h2 s H C cl fp) ?_, fun hb => (nomatch hb)⟩⟩
    rintro d μ5 ⟨rfl, rfl⟩
    exact ⟨_, rfl, by rw [filter_next hy, List.map_append]; rfl, rfl⟩
  · rintro p acc μ2 ⟨rfl, rfl⟩
    rw [List.length_map, List.take_of_length_le (Nat.le_refl _)]
    exact hd p
end
end Oc

/-! Own layer: a op b op' c. -/
namespace Oc
open PySem PySem.Spec L2
open Evl (Ex)
section
variable {X : Cy} {a b c : Expr} {ρ : Rho} {μ : Mu} {Φ : D → Mu → Prop} {pos : Pos}
theorem w_chain {op op' : CmpOp} (h : wE X a ρ μ fun d1 μ1 => wE X b ρ μ1 fun d2 μ2 => wOp X (compareOp op) d1 d2 μ2 fun d3 μ3 => ∃ k, d3 = .bl k ∧ (k = true → wE X c ρ μ3 fun d4 μ4 => wOp X (compareOp op') d2 d4 μ4 Φ) ∧ (k = false → Φ (.bl false) μ3))
    (hm : lastMarks [op, op'] [b, c] = false := by with_unfolding_all rfl) : wE X (.Compare a [op, op'] [b, c] pos) ρ μ Φ := fun F σ H hs sl Q kt =>
  se_of (pe_chain op_s op_s pe_s pe_s pe_s hm) (h F σ H hs sl _ fun x F1 H1 d1 μ1 h1 e1 hs1 r1 => h1 F1 σ H1 hs1 (sl.mono e1) _ fun y F2 H2 d2 μ2 h2 e2 hs2 r2 =>
    h2 F2 H2 x y hs2 (r1.mono e2) r2 _ fun z F3 H3 d3 μ3 h3 e3 hs3 r3 => by
      obtain ⟨k, rfl, ht, hf⟩ := h3
      cases r3
      refine ⟨k, rfl, ?_⟩
      cases k with
      | false =>
        rw [if_neg Bool.false_ne_true]
        exact kt _ F3 H3 _ μ3 (hf rfl) (e1.trans (e2.trans e3)) hs3 (.bl _)
      | true =>
        rw [if_pos rfl]
        exact ht rfl F3 σ H3 hs3 (sl.mono (e1.trans (e2.trans e3))) _ fun w F4 H4 d4 μ4 h4 e4 hs4 r4 => h4 F4 H4 y w hs4 (r2.mono (e3.trans e4)) r4 Q (kt.mono (e1.trans (e2.trans (e3.trans e4)))))
end
end Oc

/-! Own layer: a list's last item; pairs among pairs. -/
namespace Oc
open PySem PySem.Spec L2
open Evl (Ex)
section
variable {X : Cy} {μ : Mu} {Φ : D → Mu → Prop} {d : D}
theorem ix_lstN {ds l : List D} (hd : ds = l ++ [d]) (k : Φ d μ) : wIx X (.lst ds) (.int (-1)) μ Φ := wix_of ix_list fun F H x y hs r1 r2 Q kt => by
  subst hd
  cases r2
  cases r1 with
  | lst g q =>
    have hsp : ∀ {xs : List V} {l : List D} {d : D}, Reps X.K F xs (l ++ [d]) → ∃ ys v, xs = ys ++ [v] ∧ Rep X.K F v d := fun {xs l d} r => by
      induction l generalizing xs with
      | nil =>
        cases r with
        | cons r rr => cases rr; exact ⟨[], _, rfl, r⟩
      | cons a l ih =>
        cases r with
        | cons r rr =>
          obtain ⟨ys, v, h1, h2⟩ := ih rr
          exact ⟨_ :: ys, v, by rw [h1]; rfl, h2⟩
    obtain ⟨ys, v, rfl, rv⟩ := hsp q
    exact ⟨_, _, _, v, rfl, rfl, Evl.sq_of (hs.ex _ _ g), atI_last, kt.now k hs rv⟩
end
theorem eqv_pair (p q : Nat × Nat) : PyData.eqv (natP p).py (natP q).py = decide (p = q) := by
  show PyData.eqv (D.tup [.int p.1, .int p.2]).py (D.tup [.int q.1, .int q.2]).py = _
  have e1 := eqv_int (p.1 : Int) (q.1 : Int)
  have e2 := eqv_int (p.2 : Int) (q.2 : Int)
  simp only [D.py, D.pys, PyData.eqv, PyData.eqvAll] at e1 e2 ⊢
  rw [e1, e2, Bool.and_true, Bool.eq_iff_iff, Bool.and_eq_true, decide_eq_true_iff, decide_eq_true_iff, decide_eq_true_iff]
  constructor
  · rintro ⟨h1, h2⟩; exact Prod.ext (by omega) (by omega)
  · rintro rfl; exact ⟨rfl, rfl⟩
theorem pairs_any (L : List (Nat × Nat)) (r : Nat × Nat) : ((L.map natP).any fun z => PyData.eqv z.py (natP r).py) = decide (r ∈ L) := by
  rw [List.any_map, Bool.eq_iff_iff, List.any_eq_true, decide_eq_true_iff]
  constructor
  · rintro ⟨a, ha, h⟩
    have h : PyData.eqv (natP a).py (natP r).py = true := h
    rw [eqv_pair, decide_eq_true_iff] at h
    subst h
    exact ha
  · exact fun h => ⟨r, h, by show PyData.eqv (natP r).py (natP r).py = true; rw [eqv_pair]; simp⟩
end Oc

/-! Own layer: sorted(set(l)) of a list of ints. -/
namespace Oc
open PySem PySem.Spec L2 PyProof.Rows
open Evl (Ex)
section
variable {P : Program} {w : World} {A : Around} {E : Value → Shared → Prop} {s : Shared}
abbrev bareSet (w : World) : Obj := { cls := .type "set", dict := none, data := .set #[] 0 (.fresh 0 0 (!w.params.followText "set-order")) }
set_option maxHeartbeats 6400000 in
/-- set(l), l a list of ints: the table is known -/
theorem set_of_ints {l : Addr} {items : Array Value} {ns : List Int} {Q : Value → Shared → Prop} (hh : A.handled = none) (hl : s.heap.IsList l items) (hit : IntsAre items.toList ns) (hb : ns.length + 1 < scanBound)
    (h : ∀ (h' : Heap) (tk c : Nat), SetR w h' s.heap.objs.size (fun j => decide (j ∈ ns)) c → c ≤ ns.length → (∀ b o, s.heap.get? b = some o → h'.get? b = some o) → Q (.ref s.heap.objs.size) { s with heap := h', toks := tk }) :
    wpAny (model P w) A (call (.type "set") [.ref l]) Q E s := by
  have hlen : items.size = ns.length := (Array.length_toList (xs := items)).symm.trans hit.length
  obtain ⟨c, tl, hmro⟩ := F.called_set.mro
  have hmade := F.called_set.made
  have hsub := F.called_set.sub
  have h1 := F.called_set.notType
  have h2 := F.called_set.canCreate
  have hct := F.typeCall_set_1 (.ref l)
  have hS : (s.heap.push (bareSet w)).get? s.heap.objs.size = some (bareSet w) := Heap.get?_push_size _ rfl
  refine wpAny_call (codeAny_of_tree ?_)
  show wpAny _ _ (callAny (.type "set") _) _ _ _
  refine wpAny_pure ⟨Code.quiet_builtin _ (by decide +kernel), codeAny_builtin F.entry_type_call ?_⟩
  rw [Around.under_plain (weight_type_call_type "set" [.ref l] []) rfl]
  repeat (any_goals (first | assumption | wp_step))
  refine codeAny_mono (code_set_led1 (.ref l) (E := E) (Q₁ := fun v s₁ => v = .ref s.heap.objs.size ∧ s₁ = { s with heap := s.heap.push (bareSet w) }) ⟨rfl, rfl⟩) fun r s₁ hr => ?_
  cases r with
  | error e => exact hr
  | ok fl =>
    cases fl with
    | ret v =>
      obtain ⟨rfl, rfl⟩ := hr
      have hT : Shared.TypeIs { s with heap := s.heap.push (bareSet w) } (.ref s.heap.objs.size) "set" := ⟨_, hS, rfl⟩
      have hli := F.called_set.init.lookup
      have hbi := F.called_set.init.bind (.ref s.heap.objs.size)
      repeat (any_goals (first | assumption | wp_step))
      refine codeAny_mono (codeAny_call_builtin (R := wants (fun r s₂ => r = .none ∧ ∃ h' tk c, s₂ = { s with heap := h', toks := tk } ∧ SetR w h' s.heap.objs.size (fun j => decide (j ∈ ns)) c ∧ c ≤ ns.length ∧
          (∀ b o, s.heap.get? b = some o → h'.get? b = some o)) E) F.called_set.init.plain F.entry_set_init (check_set_init_1 hT ?_)) fun r₂ s₂ hr₂ => ?_
      · have hl1 : (s.heap.push (bareSet w)).IsList l items := hl.push _
        obtain ⟨⟨ocls, odict, odata, oslots⟩, hol, hcl, nl, hdl⟩ := hl
        simp only at hcl hdl
        subst hcl
        subst hdl
        have hol' := Heap.get?_push_of_some (bareSet w) hol
        have hsls := F.sub_list_set
        have hslf := F.sub_list_frozenset
        have hne : (Value.type "list" == Value.type "dict") = false := by decide
        unfold Builtin.«set.__init__» noKeywords Builtin.Frozenset.updateFrom
        generalize hPI : pyIter = PI
        wp_walk
        subst hPI
        refine wpAny_pyIter_list hl1 ?_
        refine wpAny_bind (wpAny_runValue ?_)
        have hlS : l < s.heap.objs.size := Heap.lt_size hol
        have hh3 : A.in1.in1.in1.handled = none := by simp [hh]
        have hz : (s.heap.push (bareSet w)).objs.size = s.heap.objs.size + 1 := Heap.size_push ..
        have hneI : l ≠ (s.heap.push (bareSet w)).objs.size := by rw [hz]; exact Nat.ne_of_lt (Nat.lt_succ_of_lt hlS)
        have hSf : s.heap.objs.size ∉ [(s.heap.push (bareSet w)).objs.size, l] := by
          rw [hz]
          simp only [List.mem_cons, List.not_mem_nil, or_false, not_or]
          exact ⟨Nat.ne_of_lt (Nat.lt_succ_self _), Nat.ne_of_gt hlS⟩
        have hval : ∀ (i : Nat) (v : Value), items[i]? = some v → ∃ k t, ns[i]? = some k ∧ v = .int k t := fun i v hv => by
          have hi : i < ns.length := by rw [← hlen]; exact (Array.getElem?_eq_some_iff.mp hv).1
          obtain ⟨t, e⟩ := IntsAre.int_at hit i v (by rw [Array.getElem?_toList]; exact hv)
          refine ⟨ns[i], t, List.getElem?_eq_getElem hi, ?_⟩
          rw [e, List.getD_eq_getElem?_getD, List.getElem?_eq_getElem hi] <;> rfl
        refine set_update_ints ((Walks.list hh3 _ l hneI items).toS) s.heap.objs.size hSf ns hlen hb hval (items.size - 0) 0 _ (by omega) (Nat.zero_le _)
          ⟨⟨_, Heap.get?_push_size _ rfl, rfl, rfl⟩, (hl1.push _)⟩ ⟨0, Nat.le_refl 0, setR_new_at (Heap.get?_push_of_some _ hS)⟩ ?_
        intro s' c' hm hc' hS'
        obtain ⟨h', g2, d', tk', os'⟩ := s'
        have eg : g2 = s.gens := hm.gens
        have ed : d' = s.drawn := hm.drawn
        have eo : os' = s.os := hm.os
        subst eg
        subst ed
        subst eo
        show wpAny _ _ _ _ _ _
        refine wpAny_pure ?_
        show wpAny _ _ (ret Value.none) _ _ _
        rw [hlen] at hc'
        refine wpAny_pure ⟨rfl, h', tk', c', rfl, hS', hc', fun b o e => ?_⟩
        have hb0 : b < s.heap.objs.size := Heap.lt_size e
        refine hm.heap b o ?_ (Heap.get?_push_of_some _ (Heap.get?_push_of_some _ e))
        simp only [List.mem_cons, List.not_mem_nil, or_false, not_or]
        exact ⟨Nat.ne_of_lt hb0, by rw [hz]; exact Nat.ne_of_lt (Nat.lt_succ_of_lt hb0)⟩
      · cases r₂ with
        | error e => exact hr₂
        | ok fl₂ =>
          cases fl₂ with
          | ret r =>
            obtain ⟨rfl, h', tk, c', rfl, hS', hc', hk'⟩ := hr₂
            repeat (any_goals (first | assumption | wp_step))
            exact h _ _ _ hS' hc' hk'
          | _ => exact hr₂.elim
    | _ => exact hr.elim
end
section
variable {X : Cy}
def rSetL (K : PySem.W.Frag) (w : World) : List V → Hp → VK → Prop := fun xs H Q => ∃ (l : Addr) (ns : List Int), xs = [V.ref l] ∧ SqL K H l (ns.map V.int) ∧ ns.length < 64 ∧
  ∀ p c, H p = none → c ≤ ns.length → Q (.ref p) (upd H p (SetO w p (fun j => decide (j ∈ ns)) c))
theorem cr_setL (hc : X.calm = true) : CallR X (.type "set") (rSetL X.K X.w) := by
  intro pins s σ H xs us Q I r h
  obtain ⟨l, ns, rfl, hl, hz, q⟩ := h
  rw [Vals.ref1 r]
  obtain ⟨its, rv, pl, hz2⟩ := I.list hl
  have hn : H s.heap.objs.size = none := I.hok.fresh (Nat.le_refl _)
  refine set_of_ints (I.ok.hd hc) pl.isList (by simpa using ints_of_vals rv) (by unfold scanBound; omega) fun h' tk c R hc2 k => ?_
  exact ⟨.ref s.heap.objs.size, upd H s.heap.objs.size (SetO X.w s.heap.objs.size (fun j => decide (j ∈ ns)) c), I.laid (t' := tk) k (Nat.le_refl _) (setO_new R), rfl, q _ c hn hc2⟩
end
end Oc

/-! Own layer: sorted(t) of a tuple of ints, t[::-1], sorted(set(l)). -/
namespace Oc
open PySem PySem.Spec L2 PyProof.Rows
open Evl (Ex)
section
variable {P : Program} {w : World} {A : Around} {E : Value → Shared → Prop} {s : Shared}
theorem sorted_of_tup {t : Addr} {vs : List Value} {ns : List Int} {Q : Value → Shared → Prop} (ht : IsTup s.heap t vs.toArray) (hI : IntsAre vs ns) (h64 : vs.length < 64)
    (hQ : ∀ (h1 h2 : Heap) (out : Array Value) (c : Nat) (ns' : List Int), (∀ b o, s.heap.get? b = some o → h1.get? b = some o) → (∀ b o, h1.get? b = some o → h2.get? b = some o) → h2.get? h1.objs.size = some (seqObj "list" out c) → IntsAre out.toList ns' → ns'.Perm ns → ns'.Pairwise (· ≤ ·) → Q (.ref h1.objs.size) { s with heap := h2 }) :
    wpAny (model P w) A (call (.builtin "sorted") [.ref t]) Q E s := by
  obtain ⟨o, ho, hc, n, hd⟩ := ht
  refine Calls.call_function_entry kind_sorted plain_sorted entry_sorted (args_sorted1 _) ?_
  unfold Builtin.«sorted»
  refine wpAny_bind (m := checkCount "sorted" 1 1 _) (wpAny_pure ?_)
  refine wpAny_bind (wpAny_collect_seq t (T := "tuple") (.inr rfl) ho hc hd (fun h' k => ?_) (by rw [List.size_toArray, sizeLine_eq]; omega))
  have hoL : (h'.push (seqObj "list" vs.toArray 0)).get? h'.objs.size = some (seqObj "list" vs.toArray 0) := Heap.get?_push_size _ rfl
  refine wpAny_bind (wpAny_newList ?_ (by rw [sizeLine_eq]; show vs.length ≤ _; omega))
  refine wpAny_bind (wpAny_holding (wpAny_call_entry slot_list_sort ⟨_, hoL, rfl⟩ entry_list_sort (list_sort_tree hoL hI h64 fun out ns' a1 a2 a3 => ⟨_, rfl, ?_⟩) (args_list_sort _)))
  obtain ⟨c, hc⟩ := sortedHeap_at (vs := vs) (out := out) hoL
  refine wpAny_pure ⟨_, rfl, hQ h' _ out c ns' k (fun b u q => ?_) hc a1 a2 a3⟩
  have hlt := Heap.lt_size q
  show (sortedHeap (h'.push (seqObj "list" vs.toArray 0)) h'.objs.size vs out).get? b = some u
  rw [sortedHeap_old (Nat.ne_of_lt hlt) (by rw [size_push']; exact Nat.lt_succ_of_lt hlt)]
  exact Heap.get?_push_of_some _ q
theorem applied_rev {sl : Addr} {vl vu vs : Value} {n : Nat} {Q : Int × Int × Nat → Shared → Prop} (hs : s.heap.IsSliceOf sl vl vu vs) (pl : IsPart vl none) (pu : IsPart vu none) (ps : IsPart vs (some (-1)))
    (h : Q ((n : Int) - 1, -1, n) s) : wpAny (model P w) A (Builtin.Slice.sliceApplied (.ref sl) (pure (n : Int))) Q E s := by
  obtain ⟨os, hos, hcs, hds⟩ := id hs
  unfold Builtin.Slice.sliceApplied Builtin.Slice.sliceFields
  refine wpAny_bind (wpAny_bind (wpAny_field hos hds (x := vl) rfl (wpAny_bind (wpAny_field hos hds (x := vu) rfl (wpAny_bind (wpAny_field hos hds (x := vs) rfl (wpAny_pure ?_)))))))
  refine wpAny_bind (HT.slicePart_ ps ?_)
  show wpAny _ _ (if ((-1 : Int) == 0) = true then _ else _) _ _ s
  rw [if_neg (by decide)]
  refine wpAny_bind (HT.slicePart_ pl (wpAny_bind (HT.slicePart_ pu (wpAny_bind (wpAny_pure ?_)))))
  have e1 : Builtin.Slice.sliceAdjust none none (-1) (n : Int) = ((n : Int) - 1, -1) := by
    unfold Builtin.Slice.sliceAdjust
    have h1 : (-1 : Int) < 0 := by decide
    simp only [h1, if_true]
  have e2 : Builtin.Slice.slicePlaces ((n : Int) - 1) (-1) (-1) = n := by
    unfold Builtin.Slice.slicePlaces
    have h1 : ¬ ((-1 : Int) > 0) := by decide
    simp only [h1, if_false]
    by_cases hn : n = 0
    · subst hn; rfl
    · rw [if_pos (by omega), show (-(-1) : Int) = 1 by decide, Int.ediv_one]; omega
  show wpAny _ _ (match Builtin.Slice.sliceAdjust none none (-1) (n : Int) with | (lo, hi) => pure (lo, (-1 : Int), Builtin.Slice.slicePlaces lo hi (-1))) _ _ s
  rw [e1]
  show wpAny _ _ (pure ((n : Int) - 1, (-1 : Int), Builtin.Slice.slicePlaces ((n : Int) - 1) (-1) (-1))) _ _ s
  rw [e2]
  exact wpAny_pure h
theorem pick_rev (xs : Array Value) : ((List.range xs.size).filterMap fun (m : Nat) => xs[(((xs.size : Int) - 1) + (m : Int) * -1).toNat]?).toArray = xs.toList.reverse.toArray := by
  rw [← PySem.W.krv_pick xs]
  unfold slicePick
  rw [PySem.W.krv_bounds]
  show _ = ((sliceRange ((xs.size : Int) - 1) (-1) (-1)).filterMap (xs[·]?)).toArray
  rw [PySem.W.krv_sliceRange, List.filterMap_map]
  congr 1
  have cg : ∀ (f g : Nat → Option Value) (l : List Nat), (∀ k ∈ l, f k = g k) → l.filterMap f = l.filterMap g := fun f g l => by
    induction l with
    | nil => intro _; rfl
    | cons a l ih =>
      intro h
      rw [List.filterMap_cons, List.filterMap_cons, h a List.mem_cons_self, ih fun k hk => h k (List.mem_cons_of_mem _ hk)]
  refine cg _ _ _ fun k hk => ?_
  have hk := List.mem_range.mp hk
  show xs[(((xs.size : Int) - 1) + (k : Int) * -1).toNat]? = xs[xs.size - 1 - k]?
  rw [show (((xs.size : Int) - 1) + (k : Int) * -1).toNat = xs.size - 1 - k by omega]
theorem item_tup_rev {t sl : Addr} {items : Array Value} {vl vu vs : Value} {Q : Value → Shared → Prop} (ht : IsTup s.heap t items) (hs : s.heap.IsSliceOf sl vl vu vs) (pl : IsPart vl none) (pu : IsPart vu none) (ps : IsPart vs (some (-1)))
    (h : Q (.ref s.heap.objs.size) { s with heap := s.heap.push { cls := .type "tuple", data := .seq items.toList.reverse.toArray } }) (hsz : items.size ≤ sizeLine) :
    wpAny (model P w) A (getItem (.ref t) (.ref sl)) Q E s := by
  have hok : sizeOk (.seq items.toList.reverse.toArray) := by
    show items.toList.reverse.toArray.size ≤ sizeLine
    rw [List.size_toArray, List.length_reverse, Array.length_toList]
    exact hsz
  obtain ⟨os, hos, hcs, hds⟩ := id hs
  have hTs : s.TypeIs (.ref sl) "slice" := ⟨os, hos, hcs⟩
  unfold getItem
  try with_reducible refine wpAny_holding ?_
  first | refine wpAny_bind (wpAny_pure ?_) | skip
  refine wpAny_bind (wpAny_sequenceKey ht.typeIs (by decide) ?_)
  refine wpAny_bind (wpAny_callSpecial?_slot (name := Str.ofString "__getitem__") ht.typeIs PyProof.Rows.slot_tuple_getitem
    (wpAny_call_entry PyProof.Rows.slot_tuple_getitem ht.typeIs entry_tuple_getitem ?_ (args_tuple_getitem _ _)))
  show wpAny _ _ (Builtin.Tuple.tupleItemsOf (.ref t) >>= _) _ _ s
  refine wpAny_bind (tupleItemsOf_ ht ?_)
  refine wpAny_bind (wpAny_typeOf hTs ?_)
  rw [if_pos (by decide)]
  refine wpAny_bind (applied_rev hs pl pu ps ?_)
  have hno : ¬ (((items.size : Int) - 1 == 0 && (-1 : Int) == 1 && items.size == items.size) = true) := by
    rw [show ((-1 : Int) == 1) = false by decide, Bool.and_false, Bool.false_and]
    exact Bool.false_ne_true
  show wpAny _ _ (if ((items.size : Int) - 1 == 0 && (-1 : Int) == 1 && items.size == items.size) = true then _ else _) _ _ s
  rw [if_neg hno, pick_rev]
  first
    | exact wpAny_bind (m := Builtin.Tuple.tupleExact _) (wpAny_newObj_type (wpAny_pure ⟨_, rfl, wpAny_pure h⟩) hok)
    | exact wpAny_bind (m := Builtin.Tuple.tupleExact _) (wpAny_newObj_type (wpAny_bind (wpAny_pure (wpAny_pure ⟨_, rfl, wpAny_pure h⟩))) hok)
    | exact wpAny_bind (wpAny_bind (m := Builtin.Tuple.tupleExact _) (wpAny_newObj_type (wpAny_pure (wpAny_pure ⟨_, rfl, wpAny_pure h⟩)) hok))
    | exact wpAny_bind (wpAny_bind (m := Builtin.Tuple.tupleExact _) (wpAny_newObj_type (wpAny_pure ⟨_, rfl, wpAny_pure h⟩) hok))
end
section
variable {X : Cy} {e : Expr} {te : TE} {k : Nat} {p1 p2 p3 pos : Pos}
def tRevT (K : PySem.W.Frag) (te : TE) : TE := fun σ H Q => te σ H fun x H1 => ∃ a xs, x = .ref a ∧ SqT K H1 a xs ∧ ∀ p, H1 p = none → Q (.ref p) (upd H1 p (.tup xs.reverse))
theorem pe_revT (he : PE X e te) : PE X (.Subscript e (.Slice none none (some (.UnaryOp .USub (.Constant (.int 1) k p1) p2)) p3) pos) (tRevT X.K te) := by
  refine ⟨fun pins s σ H Q I h => ?_⟩
  refine Subscript_ (thn (he.run pins s σ H _ I h) fun v s1 ⟨x, H1, I1, r1, q1⟩ => ?_)
  obtain ⟨a, xs, ex, hx, q⟩ := q1
  subst ex
  cases r1
  have hst : PO X (some (.UnaryOp .USub (.Constant (.int 1) k p1) p2)) (tPart (tUn (rU fun i => .int (-i)) (tC (.int 1)))) := po_some (pe_un un_neg pe_int)
  refine wpAny_Slice (thn (po_none.run pins s1 σ H1 (fun o H2 => o = none ∧ H2 = H1) I1 ⟨rfl, rfl⟩) fun vl s2 ⟨l, H2, I2, pl, el, e2⟩ => ?_)
  subst el e2
  refine thn (po_none.run pins s2 σ H2 (fun o H3 => o = none ∧ H3 = H2) I2 ⟨rfl, rfl⟩) fun vu s3 ⟨u, H3, I3, pu, eu, e3⟩ => ?_
  subst eu e3
  refine thn (hst.run pins s3 σ H3 (fun o H4 => o = some (-1) ∧ H4 = H3) I3 ⟨1, rfl, -1, rfl, rfl, rfl⟩) fun vs s4 ⟨o, H4, I4, ps, eo, e4⟩ => ?_
  subst eo e4
  have I5 : Inv X pins σ H4 { s4 with heap := s4.heap.push { cls := .type "slice", data := .fields #[vl, vu, vs] } } := I4.kept (t' := s4.toks) fun b ob q => Heap.get?_push_of_some _ q
  obtain ⟨its, r, ht, hz⟩ := I5.tuple hx
  have hlen := r.length
  show wpAny (model X.prog X.w) X.A (subscriptTail e (.Slice none none (some (.UnaryOp .USub (.Constant (.int 1) k p1) p2)) p3) (.ref a) (.ref s4.heap.objs.size)) (EP X pins σ Q) X.xe { s4 with heap := s4.heap.push { cls := .type "slice", data := .fields #[vl, vu, vs] } }
  refine tail_any (ops := [.ref a, .ref s4.heap.objs.size]) ht.typeIs (PyProof.Rows.slot_tuple_getitem.lookup) ?_ (by with_unfolding_all rfl)
  refine item_tup_rev ht (Heap.IsSliceOf.new _ vl vu vs) pl pu ps ?_ (by rw [List.size_toArray]; omega)
  refine ⟨.ref _, _, I5.laid (t' := s4.toks) (o := .tup xs.reverse) (fun b ob q => Heap.get?_push_of_some _ q) (Nat.le_refl _) ?_, rfl, q _ (I5.hok.fresh (Nat.le_refl _))⟩
  exact ⟨by rw [List.length_reverse]; exact hz, _, r.reverse, IsTup.new _ _⟩
def rSortedTI (K : PySem.W.Frag) : List V → Hp → VK → Prop := fun vs H Q => ∃ (a : Addr) (ns : List Int), vs = [V.ref a] ∧ SqT K H a (ns.map V.int) ∧ ns.length < 64 ∧
  ∀ (ns' : List Int) (p : Addr), ns'.Perm ns → ns'.Pairwise (· ≤ ·) → H p = none → Q (.ref p) (upd H p (.lst (ns'.map V.int)))
theorem cr_sortedTI : CallR X (.builtin "sorted") (rSortedTI X.K) := by
  intro pins s σ H vs us Q I r h
  obtain ⟨a, ns, rfl, hs, h64, q⟩ := h
  obtain ⟨its, rv, ht, hz⟩ := I.tuple hs
  rw [Vals.ref1 r]
  have hl : its.length = ns.length := by have := rv.length; rw [List.length_map] at this; omega
  refine sorted_of_tup ht (ints_of_vals rv) (by omega) fun h1 h2 out c ns' k1 k2 hg hi pm pw => ?_
  have I1 : Inv X pins σ H { s with heap := h1 } := I.kept (t' := s.toks) k1
  have hn : H h1.objs.size = none := I1.hok.fresh (Nat.le_refl _)
  have hlen : (ns'.map V.int).length ≤ sizeLine := by rw [List.length_map, pm.length_eq, sizeLine_eq]; omega
  exact ⟨.ref h1.objs.size, upd H h1.objs.size (.lst (ns'.map V.int)), I1.laid (t' := s.toks) k2 (Nat.le_refl _) ⟨hlen, out.toList, c, vals_of_ints hi, hg⟩, rfl, q ns' _ pm pw hn⟩
end
section
variable {X : Cy} {e : Expr} {ρ : Rho} {μ : Mu} {Φ : D → Mu → Prop} {d : D} {k : Nat} {p1 p2 p3 pos pos2 : Pos}
theorem w_revT (h : wE X e ρ μ fun d μ1 => ∃ ds, d = .tup ds ∧ Φ (.tup ds.reverse) μ1) : wE X (.Subscript e (.Slice none none (some (.UnaryOp .USub (.Constant (.int 1) k p1) p2)) p3) pos) ρ μ Φ := fun F σ H hs sl Q kt =>
  se_of (pe_revT pe_s) (h F σ H hs sl _ fun v F1 H1 d μ1 ⟨ds, hd, q⟩ e1 hs1 r1 => by
    subst hd
    cases r1 with
    | tup g r =>
      refine ⟨_, _, rfl, Evl.st_of (hs1.ex _ _ g), fun p hp => ?_⟩
      obtain ⟨g1, g2⟩ := hs1.laid (u := .tup _) hp
      exact kt _ _ _ _ μ1 q (e1.trans g2) g1 (.tup upd_same (r.mono g2).reverse))
theorem c_sortedTI {ns : List Int} (hz : ns.length < 64) (k : ∀ ns' : List Int, ns'.Perm ns → ns'.Pairwise (· ≤ ·) → Φ (.lst (ns'.map D.int)) μ) : wCl X (.builtin "sorted") [.tup (ns.map D.int)] μ Φ :=
  wcl_of cr_sortedTI fun F H xs hs r1 Q kt => by
  cases r1 with
  | cons r rr =>
    cases rr
    cases r with
    | tup g r =>
      refine ⟨_, ns, rfl, by rw [← reps_ints r]; exact Evl.st_of (hs.ex _ _ g), hz, fun ns' q h1 h2 hq => ?_⟩
      obtain ⟨g1, g2⟩ := hs.laid (u := .lst (ns'.map V.int)) hq
      exact kt _ _ _ _ _ (k ns' h1 h2) g2 g1 (.lst upd_same (reps_map (fun n => .int n) ns'))
theorem w_sortedSet (hm : X.mg "sorted" = none) (hm2 : X.mg "set" = none) (h : wE X e ρ μ fun d μ1 => ∃ ns : List Int, d = .lst (ns.map D.int) ∧ ns.length < 64 ∧ ∀ ys : List Int, ys.Pairwise (· < ·) → (∀ k, k ∈ ys ↔ k ∈ ns) → Φ (.lst (ys.map D.int)) μ1)
    (hc : X.calm = true := by rfl) (hg : Gl X "sorted" := by rfl) (hg2 : Gl X "set" := by rfl)
    (he : starEach [Expr.Call (.Name "set" p2) [e] [] pos2] X.env = (false, eval (Expr.Call (.Name "set" p2) [e] [] pos2) X.env) :: starEach [] X.env := by rfl) (he2 : starEach [e] X.env = (false, eval e X.env) :: starEach [] X.env := by rfl) :
    wE X (.Call (.Name "sorted" p1) [.Call (.Name "set" p2) [e] [] pos2] [] pos) ρ μ Φ := fun F σ H hs sl Q kt =>
  se_of (pe_callB (cr_sortedSet hc) hg hm (by decide +kernel) (pa_cons (pe_callTy (cr_setL hc) hg2 hm2 (by decide +kernel) (pa_cons pe_s pa_nil he2) (he := he2)) pa_nil he) (he := he))
    (h F σ H hs sl _ fun v F1 H1 d μ1 ⟨ns, hd, hz, q⟩ e1 hs1 r1 => by
      subst hd
      cases r1 with
      | lst g r =>
        refine ⟨_, ns, rfl, by rw [← reps_ints r]; exact Evl.sq_of (hs1.ex _ _ g), hz, fun p c hp hc2 => ?_⟩
        obtain ⟨g1, g2⟩ := hs1.laid (u := SetO X.w p (fun j => decide (j ∈ ns)) c) hp
        refine ⟨p, _, c, rfl, upd_same, by omega, fun ys p2 hs2 hm3 hl hp2 => ?_⟩
        obtain ⟨g3, g4⟩ := g1.laid (u := .lst (ys.map V.int)) hp2
        exact kt _ _ _ _ _ (q ys hs2 fun k => (hm3 k).trans decide_eq_true_iff) (e1.trans (g2.trans g4)) g3 (.lst upd_same (reps_map (fun n => .int n) ys)))
end
end Oc

/-! Own layer: lists that stand still or cells: len, index, isinstance, comprehensions; l + l into a cell. -/
namespace Oc
open PySem PySem.Spec L2
open Evl (Ex)
section
variable {X : Cy} {μ : Mu} {Φ : D → Mu → Prop} {d : D} {ds : List D}
theorem o_addLC {xs ys : List D} (hc : xs.length + ys.length ≤ 1000000) (k : ∀ p, Φ (.ptr p) ((p, .lst (xs ++ ys)) :: μ)) : wOp X (binaryOp .Add) (.lst xs) (.lst ys) μ Φ := wop_of op_cat fun F H _ _ hs r1 r2 Q kt => by
  cases r1 with
  | lst g1 q1 =>
    cases r2 with
    | lst g2 q2 =>
      have l1 := q1.length
      have l2 := q2.length
      refine ⟨_, _, _, _, rfl, rfl, hs.ex _ _ g1, hs.ex _ _ g2, Nat.le_trans (by omega) (show 1000000 ≤ sizeLine by decide), fun p hp => ?_⟩
      exact kt _ _ _ _ _ (k p) (Ex.refl _) (hs.cell hp (.lst (q1.append q2))) (.ptr p)
theorem c_lenLV (h : LV d μ ds) (k : Φ (.int ds.length) μ) : wCl X (.builtin "len") [d] μ Φ := by
  rcases h with rfl | ⟨q, rfl, m, hm⟩
  · exact c_lenL k
  · exact c_lenP m hm k
theorem c_isiLV {n : String} {k : Bool} (h : LV d μ ds) (hk : PySem.W.kitOne X.K (.type "list") (.type n) = some k) (z : Φ (.bl k) μ) : wCl X (.builtin "isinstance") [d, .ty n] μ Φ := by
  rcases h with rfl | ⟨q, rfl, m, hm⟩
  · exact c_isi rfl hk z
  · exact c_isiP m hm hk z
theorem ix_LV {i : Int} {e : D} (n : Nat) (h : LV d μ ds) (hn : i = (n : Int)) (hd : ds[n]? = some e) (k : Φ e μ) : wIx X d (.int i) μ Φ := by
  rcases h with rfl | ⟨q, rfl, m, hm⟩
  · exact ix_lstD n hn hd k
  · exact ix_ptrD m hm n hn hd k
end
section
variable {X : Cy} {elt tg : Expr} {ifs : List Expr} {scope : Scope} {t : Tg} {vs : List Nat} {ρ : Rho} {μ μ1 : Mu} {Φ : D → Mu → Prop} {its : List D} {e : Expr} {d : D}
theorem wi_lv' {ΦI : List D → (Mu → Prop) → Mu → Prop} (h : wE X e ρ μ fun d μ1 => ∃ d', d = d' ∧ ∃ ds, LV d' μ1 ds ∧ ΦI ds (fun μ' => LV d' μ' ds) μ1) : wIP X tg e ρ μ ΦI :=
  wi_lv (w_mono h fun d μ1 ⟨d', hd, ds, hv, k⟩ => ⟨ds, hd ▸ hv, hd ▸ k⟩)
theorem lcq_mapV {α : Type} (l : List α) (f : α → D) (g : α → D) (he : its = l.map f) (hl : l.length ≤ 1000000)
    (ht : ∀ (p : Addr) (i : Nat) (x : α), l[i]? = some x → ∃ ρ', t.put (f x) (wipeR ρ vs) = some ρ' ∧ ∀ s H C cl fp, wE (blkE X scope s H C cl fp) elt ρ' ((p, .lst ((l.take i).map g)) :: μ1) fun d μ5 => d = g x ∧ μ5 = (p, .lst ((l.take i).map g)) :: μ1)
    (hd : ∀ p, Φ (.ptr p) ((p, .lst (l.map g)) :: μ1)) (hv : LV d μ1 its := by assumption) : LcQP X elt [] scope t vs ρ Φ its (fun μ' => LV d μ' its) μ1 :=
  lcq_mapP l f g he hl ht hd fun p acc => hv.cons _
end
end Oc

/-! Own layer: a op b op' c as a test. -/
namespace Oc
open PySem PySem.Spec L2
open Evl (Ex)
section
variable {X : Cy} {a b c : Expr} {ρ : Rho} {μ : Mu} {ΦT : Bool → Mu → Prop} {pos : Pos}
theorem wt_chain {op op' : CmpOp} (h : wE X a ρ μ fun d1 μ1 => wE X b ρ μ1 fun d2 μ2 => wOp X (compareOp op) d1 d2 μ2 fun d3 μ3 => ∃ k, d3 = .bl k ∧ (k = true → wE X c ρ μ3 fun d4 μ4 => wOp X (compareOp op') d2 d4 μ4 fun d μ5 => ∃ k', d = .bl k' ∧ ΦT k' μ5) ∧ (k = false → ΦT false μ3))
    (hm : lastMarks [op, op'] [b, c] = false := by with_unfolding_all rfl) : wT X (.Compare a [op, op'] [b, c] pos) ρ μ ΦT := fun F σ H hs sl Q kt =>
  st_of (pt_chain op_s op_s pe_s pe_s pe_s hm) (h F σ H hs sl _ fun x F1 H1 d1 μ1 h1 e1 hs1 r1 => h1 F1 σ H1 hs1 (sl.mono e1) _ fun y F2 H2 d2 μ2 h2 e2 hs2 r2 =>
    h2 F2 H2 x y hs2 (r1.mono e2) r2 _ fun z F3 H3 d3 μ3 h3 e3 hs3 r3 => by
      obtain ⟨k, rfl, ht, hf⟩ := h3
      cases r3
      refine ⟨k, rfl, ?_⟩
      cases k with
      | false =>
        rw [if_neg Bool.false_ne_true]
        exact ⟨false, rfl, kt _ F3 H3 μ3 (hf rfl) (e1.trans (e2.trans e3)) hs3⟩
      | true =>
        rw [if_pos rfl]
        exact ht rfl F3 σ H3 hs3 (sl.mono (e1.trans (e2.trans e3))) _ fun w F4 H4 d4 μ4 h4 e4 hs4 r4 => h4 F4 H4 y w hs4 (r2.mono (e3.trans e4)) r4 _ fun v F5 H5 d5 μ5 ⟨k', hd, q⟩ e5 hs5 r5 => by
          subst hd
          cases r5
          exact ⟨k', rfl, kt k' F5 H5 μ5 q (e1.trans (e2.trans (e3.trans (e4.trans e5)))) hs5⟩)
end
end Oc

/-! Own layer: bits of naturals, sum of a list, sorted(set(l)) up to some thousand, sorted rows. -/
namespace Oc
open PySem PySem.Spec L2 PyProof.Rows
open Evl (Ex)
theorem band_nat (a b : Nat) : Builtin.bitAnd (a : Int) (b : Int) = ((a &&& b : Nat) : Int) := by
  rw [bitAnd_pp (by omega) (by omega), Int.toNat_natCast, Int.toNat_natCast]
theorem nat_bor_band (n : Nat) : ∀ a b : Nat, a ≤ n → (a ||| b) + (a &&& b) = a + b := by
  induction n with
  | zero =>
    intro a b h
    rw [show a = 0 by omega, Nat.zero_or, Nat.zero_and]
    omega
  | succ n ih =>
    intro a b h
    by_cases h0 : a = 0
    · subst h0
      rw [Nat.zero_or, Nat.zero_and]
      omega
    have h1 := ih (a / 2) (b / 2) (by omega)
    have e1 : (a ||| b) / 2 = a / 2 ||| b / 2 := Nat.or_div_two
    have e2 : (a &&& b) / 2 = a / 2 &&& b / 2 := Nat.and_div_two
    have e3 : (a ||| b) % 2 = 1 ↔ a % 2 = 1 ∨ b % 2 = 1 := Nat.or_mod_two_eq_one
    have e4 : (a &&& b) % 2 = 1 ↔ a % 2 = 1 ∧ b % 2 = 1 := Nat.and_mod_two_eq_one
    rw [← e1, ← e2] at h1
    omega
theorem bor_nat (a b : Nat) : Builtin.bitOr (a : Int) (b : Int) = ((a ||| b : Nat) : Int) := by
  rw [bitOr_and, band_nat]
  have := nat_bor_band a a b (Nat.le_refl a)
  omega
section
variable {P : Program} {w : World} {A : Around} {E : Value → Shared → Prop} {s : Shared}
theorem sorted_setA {a : Addr} {S : Int → Bool} {n : Nat} {Q : Value → Shared → Prop} (R : SetR w s.heap a S n) (hh : A.handled = none)
    (hQ : ∀ s' p (out : Array Value) (c : Nat) (ns : List Int), (∀ b o, s.heap.get? b = some o → s'.heap.get? b = some o) → s'.gens = s.gens → s'.os = s.os → s.heap.objs.size ≤ p →
      s'.heap.get? p = some (seqObj "list" out c) → IntsAre out.toList ns → ns.Pairwise (· < ·) → (∀ k, k ∈ ns ↔ S k = true) → ns.length = n → Q (.ref p) s') :
    wpAny (model P w) A (call (.builtin "sorted") [.ref a]) Q E s := by
  obtain ⟨o, es, ep, t, ho, hex, hd, g, nd, hm, hb, hf, hn, hr, hl⟩ := R
  refine Calls.call_function_entry kind_sorted plain_sorted entry_sorted (args_sorted1 _) ?_
  unfold Builtin.«sorted»
  refine wpAny_bind (m := checkCount "sorted" 1 1 _) (wpAny_pure ?_)
  refine wpAny_bind (collect_set (A := A.in1) hh ⟨o, ho, hex.1, hd⟩ hf hb hr hl fun s1 vs k1 hz g1 o1 pm => ?_)
  have hvl : vs.length = n := by rw [pm.length_eq, List.length_map, Array.length_toList]; exact hn
  have hI : IntsAre vs (vs.map Builtin.Re.reRawOf) := ints_of vs fun v hv => by
    obtain ⟨e, he, q⟩ := List.mem_map.mp (pm.mem_iff.mp hv)
    obtain ⟨k, tk, h1, _⟩ := g e he
    exact ⟨k, tk, by rw [← q]; exact h1⟩
  have pk : (vs.map Builtin.Re.reRawOf).Perm (es.toList.map keyOf) := by
    have q := pm.map Builtin.Re.reRawOf
    rw [List.map_map] at q
    exact q
  have hz' : vs.length ≤ sizeLine := by rw [hvl, sizeLine_eq]; unfold scanBound at hb; omega
  refine wpAny_bind (wpAny_newList ?_ (by show vs.length ≤ _; exact hz'))
  have hoL : (s1.heap.push (seqObj "list" vs.toArray 0)).get? s1.heap.objs.size = some (seqObj "list" vs.toArray 0) := Heap.get?_push_size _ rfl
  refine wpAny_bind (wpAny_holding (wpAny_call_entry slot_list_sort ⟨_, hoL, rfl⟩ entry_list_sort (SrtO.list_sort_ord SrtO.swo_int hoL hz' (fun h2 => SrtO.ints_sortable hI h2) fun out b1 b2 => ⟨_, rfl, ?_⟩) (args_list_sort _)))
  obtain ⟨a1, a2, a3⟩ := SrtO.ints_out hI b1 b2
  obtain ⟨c, hc⟩ := sortedHeap_at (vs := vs) (out := out.toArray) hoL
  have pn : (out.map SrtO.iv).Perm (es.toList.map keyOf) := a2.trans pk
  refine wpAny_pure ⟨_, rfl, hQ _ s1.heap.objs.size out.toArray c (out.map SrtO.iv) (fun b u e => ?_) g1 o1 hz hc a1 (lt_of_le_nodup _ a3 (pn.nodup_iff.mpr nd)) (fun k => by rw [pn.mem_iff, ← hm k]) ?_⟩
  · have q := k1 b u e
    have hlt := Heap.lt_size q
    show (sortedHeap (s1.heap.push (seqObj "list" vs.toArray 0)) s1.heap.objs.size vs out.toArray).get? b = some u
    rw [sortedHeap_old (Nat.ne_of_lt hlt) (by rw [size_push']; exact Nat.lt_succ_of_lt hlt)]
    exact Heap.get?_push_of_some _ q
  · rw [pn.length_eq, List.length_map, Array.length_toList]; exact hn
end
section
variable {X : Cy}
def rSetA (K : PySem.W.Frag) (w : World) : List V → Hp → VK → Prop := fun xs H Q => ∃ (l : Addr) (ns : List Int), xs = [V.ref l] ∧ SqL K H l (ns.map V.int) ∧ ns.length ≤ 4094 ∧
  ∀ p c, H p = none → c ≤ ns.length → Q (.ref p) (upd H p (SetO w p (fun j => decide (j ∈ ns)) c))
theorem cr_setA (hc : X.calm = true) : CallR X (.type "set") (rSetA X.K X.w) := by
  intro pins s σ H xs us Q I r h
  obtain ⟨l, ns, rfl, hl, hz, q⟩ := h
  rw [Vals.ref1 r]
  obtain ⟨its, rv, pl, hz2⟩ := I.list hl
  have hn : H s.heap.objs.size = none := I.hok.fresh (Nat.le_refl _)
  refine set_of_ints (I.ok.hd hc) pl.isList (by simpa using ints_of_vals rv) (by unfold scanBound; omega) fun h' tk c R hc2 k => ?_
  exact ⟨.ref s.heap.objs.size, upd H s.heap.objs.size (SetO X.w s.heap.objs.size (fun j => decide (j ∈ ns)) c), I.laid (t' := tk) k (Nat.le_refl _) (setO_new R), rfl, q _ c hn hc2⟩
def rSortedSetA (w : World) : List V → Hp → VK → Prop := fun vs H Q => ∃ (a : Addr) (S : Int → Bool) (n : Nat), vs = [V.ref a] ∧ H a = some (SetO w a S n) ∧ n ≤ 4094 ∧
  ∀ (ns : List Int) (p : Addr), ns.Pairwise (· < ·) → (∀ k : Int, k ∈ ns ↔ S k = true) → ns.length = n → H p = none → Q (.ref p) (upd H p (.lst (ns.map V.int)))
theorem cr_sortedSetA (hc : X.calm = true) : CallR X (.builtin "sorted") (rSortedSetA X.w) := by
  intro pins s σ H vs us Q I r h
  obtain ⟨a, S, n, rfl, ha, h64, q⟩ := h
  have R := setO_get I ha
  rw [Vals.ref1 r]
  refine sorted_setA R (I.ok.hd hc) fun s' p out c ns k g o hp hg hi hs hm hl => ?_
  have hlen : (ns.map V.int).length ≤ sizeLine := by rw [List.length_map, hl, sizeLine_eq]; omega
  have hn : H p = none := I.hok.fresh hp
  have J : Inv X pins σ (upd H p (.lst (ns.map V.int))) { s with heap := s'.heap, gens := s'.gens, drawn := s'.drawn, toks := s'.toks } :=
    I.call (ch := []) (Un.laid k hp hn) (I.hok.laid k hp ⟨hlen, out.toList, c, vals_of_ints hi, hg⟩) (by rw [g]; exact I.bare) (fun _ z => nomatch z)
  have e : s' = { s with heap := s'.heap, gens := s'.gens, drawn := s'.drawn, toks := s'.toks } := by
    cases s'
    cases s
    cases o
    rfl
  rw [e]
  exact ⟨.ref p, _, J, rfl, q ns p hs hm hl hn⟩
end
section
variable {X : Cy} {e : Expr} {ρ : Rho} {μ : Mu} {Φ : D → Mu → Prop} {d : D} {k : Nat} {p1 p2 p3 pos pos2 : Pos}
theorem w_sortedSetA (hm : X.mg "sorted" = none) (hm2 : X.mg "set" = none) (h : wE X e ρ μ fun d μ1 => ∃ ns : List Int, d = .lst (ns.map D.int) ∧ ns.length ≤ 4094 ∧ ∀ ys : List Int, ys.Pairwise (· < ·) → (∀ k, k ∈ ys ↔ k ∈ ns) → Φ (.lst (ys.map D.int)) μ1)
    (hc : X.calm = true := by rfl) (hg : Gl X "sorted" := by rfl) (hg2 : Gl X "set" := by rfl)
    (he : starEach [Expr.Call (.Name "set" p2) [e] [] pos2] X.env = (false, eval (Expr.Call (.Name "set" p2) [e] [] pos2) X.env) :: starEach [] X.env := by rfl) (he2 : starEach [e] X.env = (false, eval e X.env) :: starEach [] X.env := by rfl) :
    wE X (.Call (.Name "sorted" p1) [.Call (.Name "set" p2) [e] [] pos2] [] pos) ρ μ Φ := fun F σ H hs sl Q kt =>
  se_of (pe_callB (cr_sortedSetA hc) hg hm (by decide +kernel) (pa_cons (pe_callTy (cr_setA hc) hg2 hm2 (by decide +kernel) (pa_cons pe_s pa_nil he2) (he := he2)) pa_nil he) (he := he))
    (h F σ H hs sl _ fun v F1 H1 d μ1 ⟨ns, hd, hz, q⟩ e1 hs1 r1 => by
      subst hd
      cases r1 with
      | lst g r =>
        refine ⟨_, ns, rfl, by rw [← reps_ints r]; exact Evl.sq_of (hs1.ex _ _ g), hz, fun p c hp hc2 => ?_⟩
        obtain ⟨g1, g2⟩ := hs1.laid (u := SetO X.w p (fun j => decide (j ∈ ns)) c) hp
        refine ⟨p, _, c, rfl, upd_same, by omega, fun ys p2 hs2 hm3 hl hp2 => ?_⟩
        obtain ⟨g3, g4⟩ := g1.laid (u := .lst (ys.map V.int)) hp2
        exact kt _ _ _ _ _ (q ys hs2 fun k => (hm3 k).trans decide_eq_true_iff) (e1.trans (g2.trans g4)) g3 (.lst upd_same (reps_map (fun n => .int n) ys)))
theorem c_sumI {ns : List Int} (k : Φ (.int ns.sum) μ) (hc : X.calm = true := by rfl) : wCl X (.builtin "sum") [.lst (ns.map D.int)] μ Φ :=
  wcl_of (cr_sum hc) fun F H xs hs r1 Q kt => by
  cases r1 with
  | cons r rr =>
    cases rr
    cases r with
    | lst g r => exact ⟨_, ns, rfl, by rw [← reps_ints r]; exact Evl.sq_of (hs.ex _ _ g), kt.now k hs (.int _)⟩
/-- sorted(l), l a list of data: the same ones, rising -/
def rSortedR (K : PySem.W.Frag) : List V → Hp → VK → Prop := fun vs H Q => ∃ (a : Addr) (bs : List (V × D)), vs = [V.ref a] ∧ SqL K H a (bs.map Prod.fst) ∧ (∀ b ∈ bs, Dp K H b.1 b.2.py) ∧ PySem.W.AllAlike (bs.map fun b => b.2.py) ∧ PySem.W.Sortable (bs.map fun b => b.2.py) ∧ (∀ b ∈ bs, b.2.py.depth ≤ 8) ∧
  ∀ (bs' : List (V × D)) (p : Addr), bs'.Perm bs → bs'.Pairwise (fun b c => PySem.W.dataLt c.2.py b.2.py = false) → H p = none → Q (.ref p) (upd H p (.lst (bs'.map Prod.fst)))
theorem cr_sortedR (hu : X.c.A.units + 64 < cLine) : CallR X (.builtin "sorted") (rSortedR X.K) := by
  intro pins s σ H vs us Q I r h
  obtain ⟨a, bs, rfl, hs, hd, hal, hk, hdp, q⟩ := h
  obtain ⟨its, rv, hl, hz⟩ := I.list hs
  rw [Vals.ref1 r]
  have each : ∀ {its : List Value} {bs : List (V × D)}, Vals (bs.map Prod.fst) its → (∀ b ∈ bs, Dp X.K H b.1 b.2.py) → PySem.W.EachIs (fun u (b : V × D) => RelV b.1 u) its bs ∧ PySem.W.EachIs (fun u (b : V × D) => ∃ as, Reads s.heap u b.2.py as) its bs := fun {its bs} rv hd => by
    induction bs generalizing its with
    | nil => cases rv; exact ⟨.nil, .nil⟩
    | cons b bs ih =>
      cases rv with
      | cons r rr =>
        obtain ⟨h1, h2⟩ := ih rr fun c hc => hd c (List.mem_cons_of_mem _ hc)
        exact ⟨.cons r h1, .cons (Dp.reads I _ _ _ (hd b List.mem_cons_self) r) h2⟩
  have back : ∀ {its : List Value} {bs : List (V × D)}, PySem.W.EachIs (fun u (b : V × D) => RelV b.1 u) its bs → Vals (bs.map Prod.fst) its := fun {its bs} e => by
    induction e with
    | nil => exact .nil
    | cons h _ ih => exact .cons h ih
  obtain ⟨e1, e2⟩ := each rv hd
  have hzb : bs.length ≤ sizeLine := by rw [List.length_map] at hz; exact hz
  have hpm := List.mergeSort_perm bs (PySem.W.dataLe false fun b : V × D => b.2.py)
  refine PySem.W.sorted_data (enc := fun b : V × D => b.2.py) hl.isList e1 e2 hal hk hzb (fun b hb => by have := hdp b hb; omega) fun out hlo eo => ?_
  obtain ⟨ep, he'⟩ := PyProof.Rows.sortedAll_at s.heap its out.toArray
  have hlen : ((bs.mergeSort (PySem.W.dataLe false fun b : V × D => b.2.py)).map Prod.fst).length ≤ sizeLine := by rw [List.length_map, hpm.length_eq]; exact hzb
  have hsrt : (bs.mergeSort (PySem.W.dataLe false fun b : V × D => b.2.py)).Pairwise (fun b c => PySem.W.dataLt c.2.py b.2.py = false) := by
    have h := PySem.W.sort_pairwise (PySem.W.sortLe_total (listOrd itemOrd) false fun b : V × D => PySem.W.keyToks b.2.py) bs
    refine List.Pairwise.imp (fun {b c} h => ?_) h
    have h : (!PySem.W.dataLt c.2.py b.2.py) = true := h
    simpa using h
  exact ⟨.ref _, upd H (s.heap.objs.size + 1) (.lst ((bs.mergeSort (PySem.W.dataLe false fun b : V × D => b.2.py)).map Prod.fst)), I.laid (t' := s.toks) (fun _ _ => PyProof.Rows.sortedAll_old) (Nat.le_succ _) ⟨hlen, out, ep, back eo, he'⟩, rfl, q _ _ hpm hsrt (I.hok.fresh (Nat.le_succ _))⟩
theorem c_sortedR {ds : List D} (hu : X.c.A.units + 64 < cLine) (hy : ∀ d ∈ ds, Ly d 8) (hal : ∀ d ∈ ds, ∀ e ∈ ds, PySem.W.alike d.py e.py = true) (hk : ∀ d ∈ ds, ∃ x r, d.py = .tuple (x :: r))
    (k : ∀ ds' : List D, ds'.Perm ds → ds'.Pairwise (fun b c => PySem.W.dataLt c.py b.py = false) → Φ (.lst ds') μ) : wCl X (.builtin "sorted") [.lst ds] μ Φ :=
  wcl_of (cr_sortedR hu) fun F H vs hs r1 Q kt => by
  cases r1 with
  | cons r rr =>
    cases rr
    cases r with
    | lst g r =>
      rename_i a xs
      have zips : ∀ {xs : List V} {ds : List D}, Reps X.K F xs ds → ∃ zs : List (V × D), zs.map Prod.fst = xs ∧ zs.map Prod.snd = ds ∧ ∀ z ∈ zs, Rep X.K F z.1 z.2 := fun {xs ds} r => by
        induction ds generalizing xs with
        | nil => cases r; exact ⟨[], rfl, rfl, fun z hz => (nomatch hz)⟩
        | cons d ds ih =>
          cases r with
          | cons r rr =>
            obtain ⟨zs, h1, h2, h3⟩ := ih rr
            refine ⟨(_, d) :: zs, by rw [List.map_cons, h1], by rw [List.map_cons, h2], fun z hz => ?_⟩
            rcases List.mem_cons.mp hz with rfl | hz
            · exact r
            · exact h3 z hz
      obtain ⟨zs, rfl, rfl, hz⟩ := zips r
      have hm : ∀ z ∈ zs, z.2 ∈ zs.map Prod.snd := fun z hz => List.mem_map.mpr ⟨z, hz, rfl⟩
      have back : ∀ {F1 : Hp} (l : List (V × D)), (∀ z ∈ l, Rep X.K F1 z.1 z.2) → Reps X.K F1 (l.map Prod.fst) (l.map Prod.snd) := fun {F1} l h => by
        induction l with
        | nil => exact .nil
        | cons z l ih => exact .cons (h z List.mem_cons_self) (ih fun y hy => h y (List.mem_cons_of_mem _ hy))
      refine ⟨_, zs, rfl, Evl.sq_of (hs.ex _ _ g), fun z hz' => rep_py hs.ex (hz z hz') (hy _ (hm z hz')).st, ?_, ?_, fun z hz' => (hy _ (hm z hz')).dp, fun zs' q hp hs' hq => ?_⟩
      · intro d hd d' hd'
        obtain ⟨z, hz1, rfl⟩ := List.mem_map.mp hd
        obtain ⟨z', hz2, rfl⟩ := List.mem_map.mp hd'
        exact hal _ (hm z hz1) _ (hm z' hz2)
      · refine .inl fun d hd => ?_
        obtain ⟨z, hz1, rfl⟩ := List.mem_map.mp hd
        exact hk _ (hm z hz1)
      · obtain ⟨g1, g2⟩ := hs.laid (u := .lst (zs'.map Prod.fst)) hq
        exact kt _ _ _ _ _ (k (zs'.map Prod.snd) (hp.map _) (List.pairwise_map.mpr hs')) g2 g1 (.lst upd_same (back zs' fun z hz1 => (hz z (hp.mem_iff.mp hz1)).mono g2))
end
end Oc

/-! Own layer: zip of three lists. -/
namespace Z3
open PySem PySem.Builtin
open Sem (wp)
theorem args_object_init_4 (a b c d : Value) : argsOk "object.__init__" ⟨[a, b, c, d], []⟩ := by
  unfold argsOk; rw [signature?_of (id := "object.__init__") (n := ['_', '_', 't', 'i', 'n', 'i', '_', '_']) (o := ['t', 'c', 'e', 'j', 'b', 'o']) (by kernel_rfl) F.owner_object]; kernel_rfl
theorem typeCall_zip_3 (a b c : Value) : checkTypeCall "zip" ⟨[a, b, c], []⟩ = pure () := by kernel_rfl
theorem newCall_zip_3 (a b c : Value) : checkBuiltinCall "zip.__new__" ⟨[.type "zip", a, b, c], []⟩ = pure () := by kernel_rfl
abbrev IsTrip (h : Heap) (T : Addr) (a b c : Value) : Prop := h.get? T = some { cls := .type "tuple", data := .seq #[a, b, c] }
theorem lk {h h' : Heap} {l : Addr} {xs : Array Value} (hl : h.IsList l xs) (k : ∀ o, h.get? l = some o → h'.get? l = some o) : h'.IsList l xs := by
  obtain ⟨o, ho, r⟩ := hl
  exact ⟨o, k o ho, r⟩
structure Ap (z TI TO i1 i2 i3 l1 l2 l3 : Addr) : Prop where
  TIz : TI ≠ z
  TITO : TI ≠ TO
  TIi1 : TI ≠ i1
  TIi2 : TI ≠ i2
  TIi3 : TI ≠ i3
  TOz : TO ≠ z
  TOi1 : TO ≠ i1
  TOi2 : TO ≠ i2
  TOi3 : TO ≠ i3
  i1z : i1 ≠ z
  i2z : i2 ≠ z
  i3z : i3 ≠ z
  i12 : i1 ≠ i2
  i13 : i1 ≠ i3
  i23 : i2 ≠ i3
  l1z : l1 ≠ z
  l1TO : l1 ≠ TO
  l1i1 : l1 ≠ i1
  l1i2 : l1 ≠ i2
  l1i3 : l1 ≠ i3
  l2z : l2 ≠ z
  l2TO : l2 ≠ TO
  l2i1 : l2 ≠ i1
  l2i2 : l2 ≠ i2
  l2i3 : l2 ≠ i3
  l3z : l3 ≠ z
  l3TO : l3 ≠ TO
  l3i1 : l3 ≠ i1
  l3i2 : l3 ≠ i2
  l3i3 : l3 ≠ i3
theorem neN {a b : Nat} (h : ¬ a = b) : (a : Addr) ≠ b := h
theorem apart (I l1 l2 l3 : Nat) (h1 : l1 < I) (h2 : l2 < I) (h3 : l3 < I) : Ap (I + 5) (I + 3) (I + 4) I (I + 1) (I + 2) l1 l2 l3 := by
  constructor <;> (refine neN ?_; omega)
section
variable {prog : Program} {w : World} {A : Around} {E : Value → Shared → Prop} {s : Shared}
theorem upd_trip {T : Addr} {a b c x : Value} {k : Nat} {Q : Unit → Shared → Prop} (hT : IsTrip s.heap T a b c)
    (h : ∀ h', h'.get? T = some { cls := .type "tuple", data := .seq ((#[a, b, c] : Array Value).setIfInBounds k x) } → Heap.SameBut T s.heap h' → Q () { s with heap := h' }) :
    wpAny (model prog w) A (updateSeq T (·.setIfInBounds k x)) Q E s := by
  refine wpAny_updateSeq hT rfl (h _ ?_ (Heap.SameBut.update ..))
  rw [Heap.get?_update_self _ hT rfl]
  simp [Obj.mapSeq]
variable {z TI TO i1 i2 i3 l1 l2 l3 : Addr} {k : Nat} {xs ys zs : Array Value} {x y u a b c : Value}
theorem next_item {Q : Value → Shared → Prop} (D : Ap z TI TO i1 i2 i3 l1 l2 l3)
    (hz : IsZip s.heap z TI TO .none) (hTI : IsTrip s.heap TI (.ref i1) (.ref i2) (.ref i3)) (hTO : IsTrip s.heap TO a b c)
    (h1 : s.heap.IsListIter i1 l1 k) (h2 : s.heap.IsListIter i2 l2 k) (h3 : s.heap.IsListIter i3 l3 k) (hl1 : s.heap.IsList l1 xs) (hl2 : s.heap.IsList l2 ys) (hl3 : s.heap.IsList l3 zs) (hx : xs[k]? = some x) (hy : ys[k]? = some y) (hu : zs[k]? = some u)
    (hQ : ∀ h', IsZip h' z TI TO (rawInt s.heap.objs.size) → IsTrip h' TO x y u → h'.IsListIter i1 l1 (k + 1) → h'.IsListIter i2 l2 (k + 1) → h'.IsListIter i3 l3 (k + 1) → IsTrip h' s.heap.objs.size x y u →
      (∀ c o, c ≠ z → c ≠ TO → c ≠ i1 → c ≠ i2 → c ≠ i3 → s.heap.get? c = some o → h'.get? c = some o) → Q (.ref s.heap.objs.size) { s with heap := h' }) :
    wpAny (model prog w) A (Builtin.«zip.__next__» ⟨[.ref z], []⟩) (fun fin s' => ∃ v, fin = .done (.ret v) ∧ Q v s') E s := by
  show wpAny _ _ (field (.ref z) 2 >>= _) _ _ _
  refine wpAny_bind (wpAny_field hz rfl (x := .bool false) rfl ?_)
  show wpAny _ _ (field (.ref z) 3 >>= _) _ _ _
  refine wpAny_bind (wpAny_field hz rfl (x := .ref TI) rfl ?_)
  refine wpAny_bind (wpAny_seqItems hTI rfl ?_)
  show wpAny _ _ (Builtin.SmallTypes.ownedTupleIsFree (.ref z) >>= _) _ _ _
  refine wpAny_bind ?_
  unfold Builtin.SmallTypes.ownedTupleIsFree
  refine wpAny_bind (wpAny_field hz rfl (x := .none) rfl (wpAny_pure ?_))
  simp only [if_true]
  refine wpAny_bind (wpAny_rule ?_)
  refine wpAny_bind (wpAny_field hz rfl (x := .ref TO) rfl ?_)
  refine wpAny_bind (wpAny_setField_rec hz (by simp) fun g1 z1 b1 => ?_)
  replace z1 : IsZip g1 z TI TO .ellipsis := z1
  refine wpAny_bind ?_
  simp only [List.zipIdx_cons, List.zipIdx_nil, List.forIn_cons, List.forIn_nil]
  have k1 : ∀ c o, c ≠ z → s.heap.get? c = some o → g1.get? c = some o := fun c o q e => b1.extBut _ _ q e
  refine wpAny_bind (wpAny_bind (wpAny_onRaise ?_))
  show wpAny _ _ (Builtin.SmallTypes.nextOf (.ref i1) >>= _) _ _ _
  refine wpAny_bind (wpAny_nextOf_list_item (h1.at fun o e => k1 _ o D.i1z e) (lk hl1 fun o e => k1 _ o D.l1z e) hx fun g2 j1 b2 => wpAny_pure ?_)
  have k2 : ∀ c o, c ≠ z → c ≠ i1 → s.heap.get? c = some o → g2.get? c = some o := fun c o q q1 e => b2.extBut _ _ q1 (k1 c o q e)
  have p2 : IsTrip g2 TO a b c := k2 _ _ D.TOz D.TOi1 hTO
  refine wpAny_bind (wpAny_seqItems p2 rfl ?_)
  refine wpAny_bind (upd_trip p2 fun g3 p3 b3 => ?_)
  replace p3 : IsTrip g3 TO x b c := p3
  refine wpAny_bind (wpAny_letGo (wpAny_pure ?_))
  have k3 : ∀ c o, c ≠ z → c ≠ TO → c ≠ i1 → s.heap.get? c = some o → g3.get? c = some o := fun c o q q0 q1 e => b3.extBut _ _ q0 (k2 c o q q1 e)
  refine wpAny_bind (wpAny_bind (wpAny_onRaise ?_))
  show wpAny _ _ (Builtin.SmallTypes.nextOf (.ref i2) >>= _) _ _ _
  refine wpAny_bind (wpAny_nextOf_list_item (h2.at fun o e => k3 _ o D.i2z D.TOi2.symm D.i12.symm e) (lk hl2 fun o e => k3 _ o D.l2z D.l2TO D.l2i1 e) hy fun g4 j2 b4 => wpAny_pure ?_)
  have k4 : ∀ c o, c ≠ z → c ≠ TO → c ≠ i1 → c ≠ i2 → s.heap.get? c = some o → g4.get? c = some o := fun c o q q0 q1 q2 e => b4.extBut _ _ q2 (k3 c o q q0 q1 e)
  have p4 : IsTrip g4 TO x b c := b4.extBut _ _ D.TOi2 p3
  refine wpAny_bind (wpAny_seqItems p4 rfl ?_)
  refine wpAny_bind (upd_trip p4 fun g5 p5 b5 => ?_)
  replace p5 : IsTrip g5 TO x y c := p5
  refine wpAny_bind (wpAny_letGo (wpAny_pure ?_))
  have k5 : ∀ c o, c ≠ z → c ≠ TO → c ≠ i1 → c ≠ i2 → s.heap.get? c = some o → g5.get? c = some o := fun c o q q0 q1 q2 e => b5.extBut _ _ q0 (k4 c o q q0 q1 q2 e)
  refine wpAny_bind (wpAny_bind (wpAny_onRaise ?_))
  show wpAny _ _ (Builtin.SmallTypes.nextOf (.ref i3) >>= _) _ _ _
  refine wpAny_bind (wpAny_nextOf_list_item (h3.at fun o e => k5 _ o D.i3z D.TOi3.symm D.i13.symm D.i23.symm e) (lk hl3 fun o e => k5 _ o D.l3z D.l3TO D.l3i1 D.l3i2 e) hu fun g6 j3 b6 => wpAny_pure ?_)
  have p6 : IsTrip g6 TO x y c := b6.extBut _ _ D.TOi3 p5
  refine wpAny_bind (wpAny_seqItems p6 rfl ?_)
  refine wpAny_bind (upd_trip p6 fun g7 p7 b7 => ?_)
  replace p7 : IsTrip g7 TO x y u := p7
  refine wpAny_bind (wpAny_letGo (wpAny_pure (wpAny_pure ?_)))
  have k7 : ∀ c o, c ≠ z → c ≠ TO → c ≠ i1 → c ≠ i2 → c ≠ i3 → s.heap.get? c = some o → g7.get? c = some o := fun c o q q0 q1 q2 q3 e => b7.extBut _ _ q0 (b6.extBut _ _ q3 (k5 c o q q0 q1 q2 e))
  refine wpAny_bind (wpAny_seqItems p7 rfl ?_)
  refine wpAny_bind (wpAny_newTuple ?_)
  have n7 : g7.objs.size = s.heap.objs.size := by rw [b7.1, b6.1, b5.1, b4.1, b3.1, b2.1, b1.1]
  have z7 : IsZip g7 z TI TO .ellipsis := b7.extBut _ _ D.TOz.symm (b6.extBut _ _ D.i3z.symm (b5.extBut _ _ D.TOz.symm (b4.extBut _ _ D.i2z.symm (b3.extBut _ _ D.TOz.symm (b2.extBut _ _ D.i1z.symm z1)))))
  have J1 : g7.IsListIter i1 l1 (k + 1) := j1.at fun o e => b7.extBut _ _ D.TOi1.symm (b6.extBut _ _ D.i13 (b5.extBut _ _ D.TOi1.symm (b4.extBut _ _ D.i12 (b3.extBut _ _ D.TOi1.symm e))))
  have J2 : g7.IsListIter i2 l2 (k + 1) := j2.at fun o e => b7.extBut _ _ D.TOi2.symm (b6.extBut _ _ D.i23 (b5.extBut _ _ D.TOi2.symm e))
  have J3 : g7.IsListIter i3 l3 (k + 1) := j3.at fun o e => b7.extBut _ _ D.TOi3.symm e
  have zlt : z < g7.objs.size := Heap.lt_size z7
  show wpAny _ _ (Builtin.SmallTypes.ownedTupleHandOut (.ref z) (.ref g7.objs.size) >>= _) _ _ _
  refine wpAny_bind ?_
  unfold Builtin.SmallTypes.ownedTupleHandOut
  have z8 : IsZip (g7.push { cls := .type "tuple", data := .seq #[x, y, u] }) z TI TO .ellipsis := Heap.get?_push_of_some _ z7
  refine wpAny_bind (wpAny_setField_rec z8 (by simp) fun g9 z9 b9 => ?_)
  replace z9 : IsZip g9 z TI TO (rawInt g7.objs.size) := z9
  refine wpAny_setField_rec z9 (by simp) fun g10 z10 b10 => ?_
  replace z10 : IsZip g10 z TI TO (rawInt g7.objs.size) := z10
  have up : ∀ c o, c ≠ z → g7.get? c = some o → g10.get? c = some o := fun c o q e => b10.extBut _ _ q (b9.extBut _ _ q (Heap.get?_push_of_some _ e))
  have t10 : IsTrip g10 g7.objs.size x y u := b10.extBut _ _ (Nat.ne_of_gt zlt) (b9.extBut _ _ (Nat.ne_of_gt zlt) (Heap.get?_push_size _ rfl))
  rw [n7] at z10 t10
  refine wpAny_pure ⟨_, rfl, ?_⟩
  show Q (.ref g7.objs.size) _
  rw [n7]
  exact hQ g10 z10 (up _ _ D.TOz p7) (J1.at fun o e => up _ o D.i1z e) (J2.at fun o e => up _ o D.i2z e) (J3.at fun o e => up _ o D.i3z e) t10 fun c o q q0 q1 q2 q3 e => up c o q (k7 c o q q0 q1 q2 q3 e)
theorem next_end {Q : Fin → Shared → Prop} (hh : A.handled = none) (D : Ap z TI TO i1 i2 i3 l1 l2 l3)
    (hz : IsZip s.heap z TI TO .none) (hTI : IsTrip s.heap TI (.ref i1) (.ref i2) (.ref i3)) (hTO : IsTrip s.heap TO a b c)
    (h1 : s.heap.IsListIter i1 l1 k) (h2 : s.heap.IsListIter i2 l2 k) (h3 : s.heap.IsListIter i3 l3 k) (hl1 : s.heap.IsList l1 xs) (hl2 : s.heap.IsList l2 ys) (hl3 : s.heap.IsList l3 zs) (hend : xs[k]? = none ∨ ys[k]? = none ∨ zs[k]? = none)
    (hE : ∀ h' e, (∀ c o, c ≠ z → c ≠ TO → c ≠ i1 → c ≠ i2 → c ≠ i3 → s.heap.get? c = some o → h'.get? c = some o) → (∃ o, h'.get? e = some o ∧ o.cls = .type "StopIteration") → E (.ref e) { s with heap := h' }) :
    wpAny (model prog w) A (Builtin.«zip.__next__» ⟨[.ref z], []⟩) Q E s := by
  show wpAny _ _ (field (.ref z) 2 >>= _) _ _ _
  refine wpAny_bind (wpAny_field hz rfl (x := .bool false) rfl ?_)
  show wpAny _ _ (field (.ref z) 3 >>= _) _ _ _
  refine wpAny_bind (wpAny_field hz rfl (x := .ref TI) rfl ?_)
  refine wpAny_bind (wpAny_seqItems hTI rfl ?_)
  show wpAny _ _ (Builtin.SmallTypes.ownedTupleIsFree (.ref z) >>= _) _ _ _
  refine wpAny_bind ?_
  unfold Builtin.SmallTypes.ownedTupleIsFree
  refine wpAny_bind (wpAny_field hz rfl (x := .none) rfl (wpAny_pure ?_))
  simp only [if_true]
  refine wpAny_bind (wpAny_rule ?_)
  refine wpAny_bind (wpAny_field hz rfl (x := .ref TO) rfl ?_)
  refine wpAny_bind (wpAny_setField_rec hz (by simp) fun g1 z1 b1 => ?_)
  replace z1 : IsZip g1 z TI TO .ellipsis := z1
  refine wpAny_bind ?_
  simp only [List.zipIdx_cons, List.zipIdx_nil, List.forIn_cons, List.forIn_nil]
  have k1 : ∀ c o, c ≠ z → s.heap.get? c = some o → g1.get? c = some o := fun c o q e => b1.extBut _ _ q e
  refine wpAny_bind (wpAny_bind (wpAny_onRaise ?_))
  show wpAny _ _ (Builtin.SmallTypes.nextOf (.ref i1) >>= _) _ _ _
  cases hx : xs[k]? with
  | none =>
    refine wpAny_bind (wpAny_nextOf_list_end hh (h1.at fun o e => k1 _ o D.i1z e) (lk hl1 fun o e => k1 _ o D.l1z e) hx fun g2 e b2 he => ?_)
    obtain ⟨oe, hoe, hce⟩ := he
    have z2 : IsZip g2 z TI TO .ellipsis := b2 _ _ D.i1z.symm z1
    have hez : e ≠ z := fun q => by subst q; rw [z2] at hoe; cases hoe; simp at hce
    refine wpAny_setField_rec z2 (by simp) fun g3 _ b3 => hE g3 e (fun c o q q0 q1 q2 q3 r => b3.extBut _ _ q (b2 _ _ q1 (k1 c o q r))) ⟨oe, b3.extBut _ _ hez hoe, hce⟩
  | some x =>
    refine wpAny_bind (wpAny_nextOf_list_item (h1.at fun o e => k1 _ o D.i1z e) (lk hl1 fun o e => k1 _ o D.l1z e) hx fun g2 j1 b2 => wpAny_pure ?_)
    have k2 : ∀ c o, c ≠ z → c ≠ i1 → s.heap.get? c = some o → g2.get? c = some o := fun c o q q1 e => b2.extBut _ _ q1 (k1 c o q e)
    have p2 : IsTrip g2 TO a b c := k2 _ _ D.TOz D.TOi1 hTO
    refine wpAny_bind (wpAny_seqItems p2 rfl ?_)
    refine wpAny_bind (upd_trip p2 fun g3 p3 b3 => ?_)
    replace p3 : IsTrip g3 TO x b c := p3
    refine wpAny_bind (wpAny_letGo (wpAny_pure ?_))
    have k3 : ∀ c o, c ≠ z → c ≠ TO → c ≠ i1 → s.heap.get? c = some o → g3.get? c = some o := fun c o q q0 q1 e => b3.extBut _ _ q0 (k2 c o q q1 e)
    have z3 : IsZip g3 z TI TO .ellipsis := b3.extBut _ _ D.TOz.symm (b2.extBut _ _ D.i1z.symm z1)
    refine wpAny_bind (wpAny_bind (wpAny_onRaise ?_))
    show wpAny _ _ (Builtin.SmallTypes.nextOf (.ref i2) >>= _) _ _ _
    cases hy : ys[k]? with
    | none =>
      refine wpAny_bind (wpAny_nextOf_list_end hh (h2.at fun o e => k3 _ o D.i2z D.TOi2.symm D.i12.symm e) (lk hl2 fun o e => k3 _ o D.l2z D.l2TO D.l2i1 e) hy fun g4 e b4 he => ?_)
      obtain ⟨oe, hoe, hce⟩ := he
      have z4 : IsZip g4 z TI TO .ellipsis := b4 _ _ D.i2z.symm z3
      have hez : e ≠ z := fun q => by subst q; rw [z4] at hoe; cases hoe; simp at hce
      refine wpAny_setField_rec z4 (by simp) fun g5 _ b5 => hE g5 e (fun c o q q0 q1 q2 q3 r => b5.extBut _ _ q (b4 _ _ q2 (k3 c o q q0 q1 r))) ⟨oe, b5.extBut _ _ hez hoe, hce⟩
    | some y =>
      have hu : zs[k]? = none := by rcases hend with h | h | h; rw [hx] at h; cases h; rw [hy] at h; cases h; exact h
      refine wpAny_bind (wpAny_nextOf_list_item (h2.at fun o e => k3 _ o D.i2z D.TOi2.symm D.i12.symm e) (lk hl2 fun o e => k3 _ o D.l2z D.l2TO D.l2i1 e) hy fun g4 j2 b4 => wpAny_pure ?_)
      have k4 : ∀ c o, c ≠ z → c ≠ TO → c ≠ i1 → c ≠ i2 → s.heap.get? c = some o → g4.get? c = some o := fun c o q q0 q1 q2 e => b4.extBut _ _ q2 (k3 c o q q0 q1 e)
      have p4 : IsTrip g4 TO x b c := b4.extBut _ _ D.TOi2 p3
      refine wpAny_bind (wpAny_seqItems p4 rfl ?_)
      refine wpAny_bind (upd_trip p4 fun g5 p5 b5 => ?_)
      refine wpAny_bind (wpAny_letGo (wpAny_pure ?_))
      have k5 : ∀ c o, c ≠ z → c ≠ TO → c ≠ i1 → c ≠ i2 → s.heap.get? c = some o → g5.get? c = some o := fun c o q q0 q1 q2 e => b5.extBut _ _ q0 (k4 c o q q0 q1 q2 e)
      have z5 : IsZip g5 z TI TO .ellipsis := b5.extBut _ _ D.TOz.symm (b4.extBut _ _ D.i2z.symm z3)
      refine wpAny_bind (wpAny_bind (wpAny_onRaise ?_))
      show wpAny _ _ (Builtin.SmallTypes.nextOf (.ref i3) >>= _) _ _ _
      refine wpAny_bind (wpAny_nextOf_list_end hh (h3.at fun o e => k5 _ o D.i3z D.TOi3.symm D.i13.symm D.i23.symm e) (lk hl3 fun o e => k5 _ o D.l3z D.l3TO D.l3i1 D.l3i2 e) hu fun g6 e b6 he => ?_)
      obtain ⟨oe, hoe, hce⟩ := he
      have z6 : IsZip g6 z TI TO .ellipsis := b6 _ _ D.i3z.symm z5
      have hez : e ≠ z := fun q => by subst q; rw [z6] at hoe; cases hoe; simp at hce
      refine wpAny_setField_rec z6 (by simp) fun g7 _ b7 => hE g7 e (fun c o q q0 q1 q2 q3 r => b7.extBut _ _ q (b6 _ _ q3 (k5 c o q q0 q1 q2 r))) ⟨oe, b7.extBut _ _ hez hoe, hce⟩
theorem pyNext_item {Q : Option Value → Shared → Prop} (D : Ap z TI TO i1 i2 i3 l1 l2 l3)
    (hz : IsZip s.heap z TI TO .none) (hTI : IsTrip s.heap TI (.ref i1) (.ref i2) (.ref i3)) (hTO : IsTrip s.heap TO a b c)
    (h1 : s.heap.IsListIter i1 l1 k) (h2 : s.heap.IsListIter i2 l2 k) (h3 : s.heap.IsListIter i3 l3 k) (hl1 : s.heap.IsList l1 xs) (hl2 : s.heap.IsList l2 ys) (hl3 : s.heap.IsList l3 zs) (hx : xs[k]? = some x) (hy : ys[k]? = some y) (hu : zs[k]? = some u)
    (hQ : ∀ h', IsZip h' z TI TO (rawInt s.heap.objs.size) → IsTrip h' TO x y u → h'.IsListIter i1 l1 (k + 1) → h'.IsListIter i2 l2 (k + 1) → h'.IsListIter i3 l3 (k + 1) → IsTrip h' s.heap.objs.size x y u →
      (∀ c o, c ≠ z → c ≠ TO → c ≠ i1 → c ≠ i2 → c ≠ i3 → s.heap.get? c = some o → h'.get? c = some o) → Q (some (.ref s.heap.objs.size)) { s with heap := h' }) :
    wpAny (model prog w) A (pyNext (.ref z)) Q E s := by
  have hT : s.TypeIs (.ref z) "zip" := ⟨_, hz, rfl⟩
  unfold pyNext
  exact wpAny_bind (wpAny_attempt (wpAny_callSpecial?_slot (name := Str.ofString "__next__") hT F.slot_zip_next
    (wpAny_call_entry F.slot_zip_next hT F.entry_zip_next
      (next_item D hz hTI hTO h1 h2 h3 hl1 hl2 hl3 hx hy hu fun h' a1 a2 a3 a4 a5 a6 a7 => wpAny_pure (hQ h' a1 a2 a3 a4 a5 a6 a7)) (F.args_zip_next_1 _))))
theorem pyNext_end {Q : Option Value → Shared → Prop} (hh : A.handled = none) (D : Ap z TI TO i1 i2 i3 l1 l2 l3)
    (hz : IsZip s.heap z TI TO .none) (hTI : IsTrip s.heap TI (.ref i1) (.ref i2) (.ref i3)) (hTO : IsTrip s.heap TO a b c)
    (h1 : s.heap.IsListIter i1 l1 k) (h2 : s.heap.IsListIter i2 l2 k) (h3 : s.heap.IsListIter i3 l3 k) (hl1 : s.heap.IsList l1 xs) (hl2 : s.heap.IsList l2 ys) (hl3 : s.heap.IsList l3 zs) (hend : xs[k]? = none ∨ ys[k]? = none ∨ zs[k]? = none)
    (hQ : ∀ h', (∀ c o, c ≠ z → c ≠ TO → c ≠ i1 → c ≠ i2 → c ≠ i3 → s.heap.get? c = some o → h'.get? c = some o) → Q none { s with heap := h' }) : wpAny (model prog w) A (pyNext (.ref z)) Q E s := by
  have hT : s.TypeIs (.ref z) "zip" := ⟨_, hz, rfl⟩
  unfold pyNext
  refine wpAny_bind (wpAny_attempt (wpAny_callSpecial?_slot (name := Str.ofString "__next__") hT F.slot_zip_next
    (wpAny_call_entry F.slot_zip_next hT F.entry_zip_next (next_end hh D hz hTI hTO h1 h2 h3 hl1 hl2 hl3 hend fun h' e hk he => ?_) (F.args_zip_next_1 _))))
  obtain ⟨o, ho, hc⟩ := he
  refine wpAny_bind (wpAny_isInstance (T := "StopIteration") (b := true) ⟨o, ho, hc⟩ isSubtype_stop ?_)
  exact wpAny_pure (hQ _ hk)
end
abbrev H1 (h : Heap) (l1 : Addr) : Heap := h.push { cls := .type "list_iterator", data := .fields #[.ref l1, .int 0 0] }
abbrev H2 (h : Heap) (l1 l2 : Addr) : Heap := (H1 h l1).push { cls := .type "list_iterator", data := .fields #[.ref l2, .int 0 0] }
abbrev H3 (h : Heap) (l1 l2 l3 : Addr) : Heap := (H2 h l1 l2).push { cls := .type "list_iterator", data := .fields #[.ref l3, .int 0 0] }
abbrev H4 (h : Heap) (l1 l2 l3 : Addr) : Heap := (H3 h l1 l2 l3).push { cls := .type "tuple", data := .seq #[.ref h.objs.size, .ref (H1 h l1).objs.size, .ref (H2 h l1 l2).objs.size] }
abbrev H5 (h : Heap) (l1 l2 l3 : Addr) : Heap := (H4 h l1 l2 l3).push { cls := .type "tuple", data := .seq #[.none, .none, .none] }
abbrev H6 (h : Heap) (l1 l2 l3 : Addr) : Heap := (H5 h l1 l2 l3).push { cls := .type "zip", data := .fields #[.none, .bool false, .bool false, .ref (H3 h l1 l2 l3).objs.size, .ref (H4 h l1 l2 l3).objs.size] }
theorem meets_new (l1 l2 l3 : Addr) (xs ys zs : Array Value) :
    Meets (Builtin.«zip.__new__» ⟨[.type "zip", .ref l1, .ref l2, .ref l3], []⟩) (fun _ R s => s.heap.IsList l1 xs ∧ s.heap.IsList l2 ys ∧ s.heap.IsList l3 zs ∧
      R (.ok (.ret (.ref (H5 s.heap l1 l2 l3).objs.size))) { s with heap := H6 s.heap l1 l2 l3 }) :=
  .of_wp fun prog w A R s h => by
    obtain ⟨hp, g, d, tk, os⟩ := s; obtain ⟨hl1, hl2, hl3, h⟩ := h
    have hsub := sub_zip
    have hL1 : Heap.IsList (Shared.heap ⟨hp, g, d, tk, os⟩) l1 xs := hl1
    have hL2 : Heap.IsList (Shared.heap ⟨hp.push { cls := .type "list_iterator", data := .fields #[.ref l1, .int 0 0] }, g, d, tk, os⟩) l2 ys := Heap.IsList.push hl2 _
    have hL3 : Heap.IsList (Shared.heap ⟨(hp.push { cls := .type "list_iterator", data := .fields #[.ref l1, .int 0 0] }).push { cls := .type "list_iterator", data := .fields #[.ref l2, .int 0 0] }, g, d, tk, os⟩) l3 zs := Heap.IsList.push (Heap.IsList.push hl3 _) _
    wp_walk using wpAny_pyIter_list hL1, wpAny_pyIter_list hL2, wpAny_pyIter_list hL3
    exact ⟨_, rfl, h⟩
section
variable {prog : Program} {w : World} {A : Around} {E : Value → Shared → Prop} {s : Shared}
theorem call_zip_3 {l1 l2 l3 : Addr} {xs ys zs : Array Value} {Q : Value → Shared → Prop} (hl1 : s.heap.IsList l1 xs) (hl2 : s.heap.IsList l2 ys) (hl3 : s.heap.IsList l3 zs)
    (h : ∀ h', IsZip h' (s.heap.objs.size + 5) (s.heap.objs.size + 3) (s.heap.objs.size + 4) .none → IsTrip h' (s.heap.objs.size + 3) (.ref s.heap.objs.size) (.ref (s.heap.objs.size + 1)) (.ref (s.heap.objs.size + 2)) →
      IsTrip h' (s.heap.objs.size + 4) .none .none .none → h'.IsListIter s.heap.objs.size l1 0 → h'.IsListIter (s.heap.objs.size + 1) l2 0 → h'.IsListIter (s.heap.objs.size + 2) l3 0 →
      (∀ c o, s.heap.get? c = some o → h'.get? c = some o) → Q (.ref (s.heap.objs.size + 5)) { s with heap := h' }) :
    wpAny (model prog w) A (call (.type "zip") [.ref l1, .ref l2, .ref l3]) Q E s := by
  refine callType_new F.called_zip (by decide) (typeCall_zip_3 _ _ _) (newCall_zip_3 _ _ _) (fun obj => args_object_init_4 obj _ _ _) F.entry_zip_new
    (meets_new l1 l2 l3 xs ys zs) ⟨hl1, hl2, hl3, ?_⟩
  have z1 : (H1 s.heap l1).objs.size = s.heap.objs.size + 1 := Heap.size_push ..
  have z2 : (H2 s.heap l1 l2).objs.size = s.heap.objs.size + 2 := by rw [Heap.size_push, z1]
  have z3 : (H3 s.heap l1 l2 l3).objs.size = s.heap.objs.size + 3 := by rw [Heap.size_push, z2]
  have z4 : (H4 s.heap l1 l2 l3).objs.size = s.heap.objs.size + 4 := by rw [Heap.size_push, z3]
  have z5 : (H5 s.heap l1 l2 l3).objs.size = s.heap.objs.size + 5 := by rw [Heap.size_push, z4]
  have up : ∀ {c : Addr} {o : Obj} {h : Heap} (x : Obj), h.get? c = some o → (h.push x).get? c = some o := fun x e => Heap.get?_push_of_some _ e
  have g6 : (H6 s.heap l1 l2 l3).get? (H5 s.heap l1 l2 l3).objs.size = some _ := Heap.get?_push_size _ rfl
  have g5 : (H6 s.heap l1 l2 l3).get? (H4 s.heap l1 l2 l3).objs.size = some _ := up _ (Heap.get?_push_size _ rfl)
  have g4 : (H6 s.heap l1 l2 l3).get? (H3 s.heap l1 l2 l3).objs.size = some _ := up _ (up _ (Heap.get?_push_size _ rfl))
  have g3 : (H6 s.heap l1 l2 l3).get? (H2 s.heap l1 l2).objs.size = some _ := up _ (up _ (up _ (Heap.get?_push_size _ rfl)))
  have g2 : (H6 s.heap l1 l2 l3).get? (H1 s.heap l1).objs.size = some _ := up _ (up _ (up _ (up _ (Heap.get?_push_size _ rfl))))
  have g1 : (H6 s.heap l1 l2 l3).get? s.heap.objs.size = some _ := up _ (up _ (up _ (up _ (up _ (Heap.get?_push_size _ rfl)))))
  show _ ∧ _
  rw [z3, z4, z5] at g6
  rw [z1, z2, z3] at g4
  rw [z4] at g5
  rw [z2] at g3
  rw [z1] at g2
  rw [z5]
  exact ⟨⟨_, g6, rfl⟩, h _ g6 g4 g5 ⟨_, g1, rfl, rfl⟩ ⟨_, g2, rfl, rfl⟩ ⟨_, g3, rfl, rfl⟩ fun c o x => up _ (up _ (up _ (up _ (up _ (up _ x)))))⟩
end
end Z3
namespace L2
open PySem PySem.Spec PyProof.Rows Z3
/-- the lists at a, b and g as they stand at each turn, the items in new triples -/
def Itz3 (K : PySem.W.Frag) (a b g : Addr) : It :=
  ⟨fun i H => ∃ (xs ys zs : List V) (x y u : V), SqL K H a xs ∧ SqL K H b ys ∧ SqL K H g zs ∧ xs[i]? = some x ∧ ys[i]? = some y ∧ zs[i]? = some u,
    fun i H v H' => ∃ T x y u, v = .ref T ∧ H T = none ∧ H' = upd H T (.tup [x, y, u]) ∧ (∀ xs, SqL K H a xs → xs[i]? = some x) ∧ (∀ ys, SqL K H b ys → ys[i]? = some y) ∧ ∀ zs, SqL K H g zs → zs[i]? = some u,
    fun i H => ∃ xs ys zs : List V, SqL K H a xs ∧ SqL K H b ys ∧ SqL K H g zs ∧ (xs.length ≤ i ∨ ys.length ≤ i ∨ zs.length ≤ i)⟩
theorem turn_zip3 {P : Program} {w : World} {K : PySem.W.Frag} {elts : List Expr} {kk : Nat} {tpos : Pos} {a b g z TI TO i1 i2 i3 : Addr} (D : Ap z TI TO i1 i2 i3 a b g) :
    Turn P w K (.Tuple elts kk tpos) (Itz3 K a b g) [z, TI, TO, i1, i2, i3] z (fun i h => IsZip h z TI TO .none ∧ IsTrip h TI (.ref i1) (.ref i2) (.ref i3) ∧ (∃ x y u, IsTrip h TO x y u) ∧ h.IsListIter i1 a i ∧ h.IsListIter i2 b i ∧ h.IsListIter i3 g i) where
  mem := by simp
  obj := fun i h st c hc => by
    obtain ⟨hz, hTI, ⟨x, y, u, hTO⟩, ⟨o1, e1, _, d1⟩, ⟨o2, e2, _, d2⟩, ⟨o3, e3, _, d3⟩⟩ := st
    have e' : c = z ∨ c = TI ∨ c = TO ∨ c = i1 ∨ c = i2 ∨ c = i3 := by simpa using hc
    rcases e' with q | q | q | q | q | q
    · rw [q]; exact ⟨_, hz, fun v q => nomatch q⟩
    · rw [q]; exact ⟨_, hTI, fun v q => nomatch q⟩
    · rw [q]; exact ⟨_, hTO, fun v q => nomatch q⟩
    · rw [q]; exact ⟨o1, e1, fun v q => by rw [d1] at q; cases q⟩
    · rw [q]; exact ⟨o2, e2, fun v q => by rw [d2] at q; cases q⟩
    · rw [q]; exact ⟨o3, e3, fun v q => by rw [d3] at q; cases q⟩
  keep := fun i h h' st k => by
    obtain ⟨hz, hTI, ⟨x, y, u, hTO⟩, h1, h2, h3⟩ := st
    exact ⟨k z (by simp) _ hz, k TI (by simp) _ hTI, ⟨x, y, u, k TO (by simp) _ hTO⟩, h1.at fun o q => k i1 (by simp) o q, h2.at fun o q => k i2 (by simp) o q, h3.at fun o q => k i3 (by simp) o q⟩
  item := by
    intro X hP hw hK hc i pins s σ H E I hf st hg
    subst hP hw hK
    obtain ⟨hz, hTI, ⟨x0, y0, u0, hTO⟩, h1, h2, h3⟩ := st
    obtain ⟨xs, ys, zs, x, y, u, hqx, hqy, hqu, hx, hy, hu⟩ := hg
    obtain ⟨its, rv, p, _⟩ := I.list hqx
    obtain ⟨its2, rv2, p2, _⟩ := I.list hqy
    obtain ⟨its3, rv3, p3, _⟩ := I.list hqu
    obtain ⟨v1, hv1, ru⟩ := rv.get hx
    obtain ⟨v2, hv2, ru2⟩ := rv2.get hy
    obtain ⟨v3, hv3, ru3⟩ := rv3.get hu
    have hzl : z < s.heap.objs.size := Heap.lt_size hz
    refine pyNext_item D hz hTI hTO h1 h2 h3 p.isList p2.isList p3.isList (x := v1) (y := v2) (u := v3) (by simpa using hv1) (by simpa using hv2) (by simpa using hv3) fun h' z' TO' h1' h2' h3' hT hk => ?_
    refine ⟨_, rfl, wpAny_letOwnedTupleGo_zip (s := { s with heap := h' }) z' fun h'' z'' sb => ?_⟩
    have hT2 : h''.get? s.heap.objs.size = some { cls := .type "tuple", data := .seq #[v1, v2, v3] } := (sb.2 _ (Nat.ne_of_gt hzl)).trans hT
    have new : ObjOk X.prog X.w (upd H s.heap.objs.size (.tup [x, y, u])) h'' s.heap.objs.size (.tup [x, y, u]) :=
      ⟨by show 3 ≤ sizeLine; decide, [v1, v2, v3], .cons ru (.cons ru2 (.cons ru3 .nil)), ⟨_, hT2, rfl, _, rfl⟩⟩
    have I1 : Inv X pins σ (upd H s.heap.objs.size (.tup [x, y, u])) { s with heap := h'' } :=
      I.turnedNew (t' := s.toks) (ch := [z, TI, TO, i1, i2, i3]) (fun c o hb q => (sb.2 c (fun q' => hb (by simp [q']))).trans (hk c o (fun q' => hb (by simp [q'])) (fun q' => hb (by simp [q'])) (fun q' => hb (by simp [q'])) (fun q' => hb (by simp [q'])) (fun q' => hb (by simp [q'])) q)) hf (Nat.le_refl _) new
    refine ⟨.ref s.heap.objs.size, _, I1, rfl, ⟨_, x, y, u, rfl, I.hok.fresh (Nat.le_refl _), rfl, fun l hl => by rw [I.list_inj hl hqx]; exact hx, fun l hl => by rw [I.list_inj hl hqy]; exact hy, fun l hl => by rw [I.list_inj hl hqu]; exact hu⟩, ⟨z'', ?_, ⟨v1, v2, v3, ?_⟩, ?_, ?_, ?_⟩, fun c hcm => ?_⟩
    · exact (sb.2 _ D.TIz).trans (hk _ _ D.TIz D.TITO D.TIi1 D.TIi2 D.TIi3 hTI)
    · exact (sb.2 _ D.TOz).trans TO'
    · exact h1'.at fun o q => (sb.2 _ D.i1z).trans q
    · exact h2'.at fun o q => (sb.2 _ D.i2z).trans q
    · exact h3'.at fun o q => (sb.2 _ D.i3z).trans q
    · have hlt : c < s.heap.objs.size := by
        have e' : c = z ∨ c = TI ∨ c = TO ∨ c = i1 ∨ c = i2 ∨ c = i3 := by simpa using hcm
        rcases e' with q | q | q | q | q | q
        · rw [q]; exact hzl
        · rw [q]; exact Heap.lt_size hTI
        · rw [q]; exact Heap.lt_size hTO
        · rw [q]; obtain ⟨_, e1, _⟩ := h1; exact Heap.lt_size e1
        · rw [q]; obtain ⟨_, e2, _⟩ := h2; exact Heap.lt_size e2
        · rw [q]; obtain ⟨_, e3, _⟩ := h3; exact Heap.lt_size e3
      rw [upd_ne (Nat.ne_of_lt hlt)]
      exact (hf c hcm).1
  done := by
    intro X hP hw hK hc i pins s σ H E I hf st hg
    subst hP hw hK
    obtain ⟨hz, hTI, ⟨x0, y0, u0, hTO⟩, h1, h2, h3⟩ := st
    obtain ⟨xs, ys, zs, hqx, hqy, hqu, hend⟩ := hg
    obtain ⟨its, rv, p, _⟩ := I.list hqx
    obtain ⟨its2, rv2, p2, _⟩ := I.list hqy
    obtain ⟨its3, rv3, p3, _⟩ := I.list hqu
    have l1 := rv.length
    have l2 := rv2.length
    have l3 := rv3.length
    have he : its.toArray[i]? = none ∨ its2.toArray[i]? = none ∨ its3.toArray[i]? = none := by
      rcases hend with q | q | q
      · exact .inl (by simp; omega)
      · exact .inr (.inl (by simp; omega))
      · exact .inr (.inr (by simp; omega))
    exact pyNext_end (I.ok.hd hc) D hz hTI hTO h1 h2 h3 p.isList p2.isList p3.isList he fun h' hk => ⟨rfl, I.turnedL (t' := s.toks) (ch := [z, TI, TO, i1, i2, i3]) (fun c o hb q =>
      hk c o (fun q' => hb (by simp [q'])) (fun q' => hb (by simp [q'])) (fun q' => hb (by simp [q'])) (fun q' => hb (by simp [q'])) (fun q' => hb (by simp [q'])) q) hf⟩
  self := fun A i s Q E st h => wpAny_pyIter_zip st.1 h
def iZip3 (K : PySem.W.Frag) (ta : TA) : TI := fun σ H R => ta σ H fun vs H1 => ∃ a b g xs ys zs, vs = [.ref a, .ref b, .ref g] ∧ SqL K H1 a xs ∧ SqL K H1 b ys ∧ SqL K H1 g zs ∧ R (Itz3 K a b g) H1
theorem pi_zip3 {X : Cx} {e e2 e3 : Expr} {ta : TA} {p pos tpos : Pos} {elts : List Expr} {kk : Nat} (hg : Gl X "zip") (hm : X.mg "zip" = none) (ha : PA X [e, e2, e3] ta)
    (hs : starEach [e, e2, e3] X.env = (false, eval e X.env) :: starEach [e2, e3] X.env := by rfl) (hpl : (backTo pos (starEach [e2, e3] X.env)).any (·.1) = false := by rfl) :
    PI X (.Tuple elts kk tpos) (.Call (.Name "zip" p) [e, e2, e3] [] pos) (iZip3 X.K ta) := by
  refine ⟨fun pins s σ H R I h => ?_⟩
  refine Call_ (ld_blt I hg hm PyProof.Rows.boot_zip (PyProof.Rows.callWith_type1 (thn (ha.run pos pins s σ H _ I h) fun us s1 ⟨vs, H1, I1, r1, q1⟩ => ?_) hs hpl))
  obtain ⟨a, b, g, xs, ys, zs, ex, hqx, hqy, hqu, q⟩ := q1
  subst ex
  cases r1 with
  | cons r rr =>
    cases rr with
    | cons r' rr =>
      cases rr with
      | cons r'' rr =>
        cases rr
        cases r
        cases r'
        cases r''
        obtain ⟨its, rv, p1, _⟩ := I1.list hqx
        obtain ⟨its2, rv2, p2, _⟩ := I1.list hqy
        obtain ⟨its3, rv3, p3, _⟩ := I1.list hqu
        have la : a < s1.heap.objs.size := p1.lt
        have lb : b < s1.heap.objs.size := p2.lt
        have lg : g < s1.heap.objs.size := p3.lt
        refine call_zip_3 p1.isList p2.isList p3.isList fun h' hz hTI hTO h1 h2 h3 hk => wpAny_pyIter_zip hz ?_
        have I2 : Inv X pins σ H1 { s1 with heap := h' } := I1.kept (t' := s1.toks) hk
        refine ⟨s1.heap.objs.size + 5, [s1.heap.objs.size + 5, s1.heap.objs.size + 3, s1.heap.objs.size + 4, s1.heap.objs.size, s1.heap.objs.size + 1, s1.heap.objs.size + 2], _, _, H1, rfl, I2, turn_zip3 (apart s1.heap.objs.size a b g la lb lg), ⟨hz, hTI, ⟨_, _, _, hTO⟩, h1, h2, h3⟩, fun c hcm => ?_, q⟩
        have e' : c = s1.heap.objs.size + 5 ∨ c = s1.heap.objs.size + 3 ∨ c = s1.heap.objs.size + 4 ∨ c = s1.heap.objs.size ∨ c = s1.heap.objs.size + 1 ∨ c = s1.heap.objs.size + 2 := by simpa using hcm
        have hle : s1.heap.objs.size ≤ c := by
          rcases e' with z | z | z | z | z | z
          · rw [z]; exact Nat.le_add_right _ _
          · rw [z]; exact Nat.le_add_right _ _
          · rw [z]; exact Nat.le_add_right _ _
          · rw [z]; exact Nat.le_refl _
          · rw [z]; exact Nat.le_add_right _ _
          · rw [z]; exact Nat.le_add_right _ _
        exact I1.fpOk hle (I1.hok.fresh hle)
end L2
namespace Oc
open PySem PySem.Spec L2
open Evl (Ex)
def zip3D (xs ys zs : List D) : List D := (xs.zip (ys.zip zs)).map fun p => .tup [p.1, p.2.1, p.2.2]
theorem zip3D_get {xs ys zs : List D} {i : Nat} {d : D} (h : (zip3D xs ys zs)[i]? = some d) : ∃ x y z, xs[i]? = some x ∧ ys[i]? = some y ∧ zs[i]? = some z ∧ d = .tup [x, y, z] := by
  unfold zip3D at h
  obtain ⟨e, he, rfl⟩ := map_get' h
  obtain ⟨h1, h2⟩ := List.getElem?_zip_eq_some.mp he
  obtain ⟨h3, h4⟩ := List.getElem?_zip_eq_some.mp h2
  exact ⟨_, _, _, h1, h3, h4, rfl⟩
theorem zip3D_len {xs ys zs : List D} : (zip3D xs ys zs).length = min xs.length (min ys.length zs.length) := by unfold zip3D; rw [List.length_map, List.length_zip, List.length_zip]
section
variable {X : Cy} {e f g : Expr} {ρ : Rho} {μ : Mu} {pos p tpos : Pos}
theorem wi_zip3 {elts : List Expr} {kk : Nat} {ΦI : List D → Mu → Prop} (hm : X.mg "zip" = none) (h : wE X e ρ μ fun d1 μ1 => wE X f ρ μ1 fun d2 μ2 => wE X g ρ μ2 fun d3 μ3 => ∃ xs ys zs, d1 = .lst xs ∧ d2 = .lst ys ∧ d3 = .lst zs ∧ ΦI (zip3D xs ys zs) μ3) (hg : Gl X "zip" := by rfl)
    (hs : starEach [e, f, g] X.env = (false, eval e X.env) :: starEach [f, g] X.env := by rfl) (hs1 : starEach [f, g] X.env = (false, eval f X.env) :: starEach [g] X.env := by rfl) (hs2 : starEach [g] X.env = [(false, eval g X.env)] := by rfl) (hpl : (backTo pos (starEach [f, g] X.env)).any (·.1) = false := by rfl) :
    wI X (.Tuple elts kk tpos) (.Call (.Name "zip" p) [e, f, g] [] pos) ρ μ ΦI := fun F σ H hh sl R kt =>
  si_of (pi_zip3 hg hm (pa_cons pe_s (pa_cons pe_s (pa_cons pe_s pa_nil hs2) hs1) hs) hs hpl) (h F σ H hh sl _ fun v F1 H1 d μ1 q1 e1 hs1 r1 => q1 F1 σ H1 hs1 (sl.mono e1) _ fun v2 F2 H2 d2 μ2 q2 e2 hs2 r2 => q2 F2 σ H2 hs2 (sl.mono (e1.trans e2)) _ fun v3 F3 H3 d3 μ3 ⟨xs, ys, zs, hd1, hd2, hd3, q⟩ e3 hs3 r3 => by
    subst hd1
    subst hd2
    subst hd3
    have r1' := r1.mono (e2.trans e3)
    have r2' := r2.mono e3
    cases r1' with
    | lst g1 ra =>
      cases r2' with
      | lst g2 rb =>
        cases r3 with
        | lst g3 rc =>
          rename_i a vs b ws c us
          refine ⟨a, b, c, vs, ws, us, rfl, Evl.ex_l hs3.ex (Evl.sq_of g1), Evl.ex_l hs3.ex (Evl.sq_of g2), Evl.ex_l hs3.ex (Evl.sq_of g3), kt _ _ F3 μ3 H3 q (e1.trans (e2.trans e3)) hs3 fun i F' μ' H' e' hs' => ?_⟩
          have g1' : SqL X.K H' a vs := Evl.ex_l hs'.ex (Evl.ex_l e' (Evl.sq_of g1))
          have g2' : SqL X.K H' b ws := Evl.ex_l hs'.ex (Evl.ex_l e' (Evl.sq_of g2))
          have g3' : SqL X.K H' c us := Evl.ex_l hs'.ex (Evl.ex_l e' (Evl.sq_of g3))
          have l1 := ra.length
          have l2 := rb.length
          have l3 := rc.length
          rw [zip3D_len]
          refine ⟨fun hi => ⟨vs, ws, us, vs[i]'(by omega), ws[i]'(by omega), us[i]'(by omega), g1', g2', g3', List.getElem?_eq_getElem _, List.getElem?_eq_getElem _, List.getElem?_eq_getElem _⟩, fun hi => ⟨vs, ws, us, g1', g2', g3', by omega⟩, fun x H4 d hy hd => ?_⟩
          obtain ⟨T, y1, y2, y3, rfl, hT, rfl, f1, f2, f3⟩ := hy
          obtain ⟨x1, x2, x3, hx1, hx2, hx3, rfl⟩ := zip3D_get hd
          obtain ⟨z1, k1, k2⟩ := ra.get hx1
          obtain ⟨z2, k3, k4⟩ := rb.get hx2
          obtain ⟨z3, k5, k6⟩ := rc.get hx3
          cases (f1 _ g1').symm.trans k1
          cases (f2 _ g2').symm.trans k3
          cases (f3 _ g3').symm.trans k5
          obtain ⟨q1, q2⟩ := hs'.laid (u := .tup [y1, y2, y3]) hT
          exact ⟨_, q2, q1, .tup upd_same (.cons ((k2.mono e').mono q2) (.cons ((k4.mono e').mono q2) (.cons ((k6.mono e').mono q2) .nil)))⟩)
end
end Oc

namespace L09
open PySem PySem.Spec L2 Oc
open Evl (Ex)
local macro_rules | `(tactic| walk_at "s") => `(tactic| first | assumption | omega | decide | (simp only [] at *; omega))
local macro_rules | `(tactic| walk_at "Add") => `(tactic| first | refine o_addN ?_ | refine o_add ?_ | refine o_addS (by walk_at "s") ?_ | refine o_addT (by walk_at "s") ?_ | refine o_addL (by walk_at "s") ?_)
local macro_rules | `(tactic| walk_at "Sub") => `(tactic| refine o_sub ?_)
local macro_rules | `(tactic| walk_at "Mult") => `(tactic| refine o_mul (by walk_at "s") ?_)
local macro_rules | `(tactic| walk_at "Mod") => `(tactic| first | refine o_modN (by walk_at "s") ?_ | refine o_mod (by walk_at "s") ?_)
local macro_rules | `(tactic| walk_at "FloorDiv") => `(tactic| first | refine o_divN (by walk_at "s") ?_ | refine o_div (by walk_at "s") ?_)
local macro_rules | `(tactic| walk_at "Pow") => `(tactic| refine o_pow (by walk_at "s") ?_)
local macro_rules | `(tactic| walk_at "LShift") => `(tactic| refine o_shl (by walk_at "s") ?_)
local macro_rules | `(tactic| walk_at "RShift") => `(tactic| refine o_shr (by walk_at "s") ?_)
local macro_rules | `(tactic| walk_at "BitAnd") => `(tactic| refine o_band ?_)
local macro_rules | `(tactic| walk_at "BitXor") => `(tactic| refine o_bxor ?_)
local macro_rules | `(tactic| walk_at "BitOr") => `(tactic| refine o_bor ?_)
local macro_rules | `(tactic| walk_at "Lt") => `(tactic| refine o_lt ?_)
local macro_rules | `(tactic| walk_at "LtE") => `(tactic| refine o_le ?_)
local macro_rules | `(tactic| walk_at "Gt") => `(tactic| refine o_gt ?_)
local macro_rules | `(tactic| walk_at "GtE") => `(tactic| refine o_ge ?_)
local macro_rules | `(tactic| walk_at "Eq") => `(tactic| refine o_eq (by rfl) ?_)
local macro_rules | `(tactic| walk_at "NotEq") => `(tactic| refine o_ne (by rfl) ?_)
local macro_rules | `(tactic| walk_at "Is") => `(tactic| refine o_isN ?_)
local macro_rules | `(tactic| walk_at "IsNot") => `(tactic| refine o_notN ?_)
local macro_rules | `(tactic| walk_at "In") => `(tactic| refine o_in (by first | exact .inl rfl | exact .inr (.inl rfl) | exact .inr (.inr rfl)) (by rfl) (by rfl) ?_)
local macro_rules | `(tactic| walk_at "NotIn") => `(tactic| refine o_nin (by first | exact .inl rfl | exact .inr (.inl rfl) | exact .inr (.inr rfl)) (by rfl) (by rfl) ?_)
local macro_rules | `(tactic| walk_at "c_abs") => `(tactic| refine c_abs ?_)
local macro_rules | `(tactic| walk_at "c_len") => `(tactic| first | refine c_lenL ?_ | refine c_lenC ?_ | refine c_lenT ?_ | refine c_lenS (by walk_at "s") ?_ | refine c_lenP 0 (by first | assumption | rfl) ?_)
local macro_rules | `(tactic| walk_at "c_str") => `(tactic| refine c_str (by walk_at "s") ?_)
local macro_rules | `(tactic| walk_at "c_isinstance") => `(tactic| refine c_isi rfl (by rfl) ?_)
local macro_rules | `(tactic| walk_at "sl") => `(tactic| first | refine sd_tup ?_ | refine sd_lst ?_)
local macro_rules | `(tactic| walk_at "c_tuple") => `(tactic| first | refine c_tupL ?_ | refine c_tupP 0 (by first | assumption | rfl) ?_ | refine c_tupT ?_)
local macro_rules | `(tactic| walk_at "c_int") => `(tactic| first | refine c_intB ?_)
local macro_rules | `(tactic| walk_at "USub") => `(tactic| refine u_neg ?_)
local macro_rules | `(tactic| walk_at "pen") => `(tactic| first | assumption | exact get_set (by assumption) | exact get_set (get_set (by assumption)) | exact get_here | (apply get_cons; walk_at "pen") | (apply get_app; walk_at "pen"))
local macro_rules | `(tactic| walk_at "mu") => `(tactic| simp only [List.set_cons_succ, List.set_set, List.set_cons_zero])
def top (i : Nat) : Stmt := PySem.Challenge.pw_opencells_k09_whole_long_rows.main.body.getD i (.Pass ⟨0, 0, 0, 0⟩)
abbrev s_differ : Stmt := top 1
abbrev N_differ : List Str := ["one", "other"]
theorem sc_differ : FnScope N_differ ["one", "other"] (defScope s_differ) := ⟨rfl, rfl, rfl, by decide +kernel, rfl, by decide +kernel, by decide +kernel⟩
abbrev s_both_go : Stmt := top 2
abbrev N_both_go : List Str := ["machine", "one", "other", "ask", "goes", "there"]
theorem sc_both_go : FnScope N_both_go ["machine", "one", "other", "ask"] (defScope s_both_go) := ⟨rfl, rfl, rfl, by decide +kernel, rfl, by decide +kernel, by decide +kernel⟩
abbrev s_are_unlike : Stmt := top 3
abbrev N_are_unlike : List Str := ["machine", "one", "other", "ask"]
theorem sc_are_unlike : FnScope N_are_unlike ["machine", "one", "other", "ask"] (defScope s_are_unlike) := ⟨rfl, rfl, rfl, by decide +kernel, rfl, by decide +kernel, by decide +kernel⟩
abbrev s_pairs_of : Stmt := top 4
abbrev N_pairs_of : List Str := ["machine", "many", "k"]
theorem sc_pairs_of : FnScope N_pairs_of ["machine"] (defScope s_pairs_of) := ⟨rfl, rfl, rfl, by decide +kernel, rfl, by decide +kernel, by decide +kernel⟩
abbrev s_came_from : Stmt := top 5
abbrev N_came_from : List Str := ["machine", "found", "one", "other", "ask", "later"]
theorem sc_came_from : FnScope N_came_from ["machine"] (defScope s_came_from) := ⟨rfl, rfl, rfl, by decide +kernel, rfl, by decide +kernel, by decide +kernel⟩
abbrev s_part_table : Stmt := top 6
abbrev N_part_table : List Str := ["machine", "many", "table", "room", "waiting", "one", "other", "ask", "come"]
theorem sc_part_table : FnScope N_part_table ["machine"] (defScope s_part_table) := ⟨rfl, rfl, rfl, by decide +kernel, rfl, by decide +kernel, by decide +kernel⟩
abbrev s_parting : Stmt := top 7
abbrev N_parting : List Str := ["machine", "one", "other", "waiting", "met", "at", "here", "there", "row", "ask", "later"]
theorem sc_parting : FnScope N_parting ["machine", "one", "other"] (defScope s_parting) := ⟨rfl, rfl, rfl, by decide +kernel, rfl, by decide +kernel, by decide +kernel⟩
abbrev s_parted : Stmt := top 8
abbrev N_parted : List Str := ["machine", "table", "one", "other"]
theorem sc_parted : FnScope N_parted ["machine"] (defScope s_parted) := ⟨rfl, rfl, rfl, by decide +kernel, rfl, by decide +kernel, by decide +kernel⟩
abbrev s_run : Stmt := top 10
abbrev N_run : List Str := ["machine", "room", "row", "answers", "here", "ask", "goes", "says"]
theorem sc_run : FnScope N_run ["machine", "room", "row"] (defScope s_run) := ⟨rfl, rfl, rfl, by decide +kernel, rfl, by decide +kernel, by decide +kernel⟩
abbrev s_lets : Stmt := top 11
abbrev N_lets : List Str := ["machine", "room", "row"]
theorem sc_lets : FnScope N_lets ["machine", "room", "row"] (defScope s_lets) := ⟨rfl, rfl, rfl, by decide +kernel, rfl, by decide +kernel, by decide +kernel⟩
abbrev s__law_take : Stmt := top 13
abbrev N__law_take : List Str := ["_law_pen", "_law_many", "_law_digit", "_law_at", "_law_cell_here", "_law_primes", "_law_prime", "_law_number"]
theorem sc__law_take : FnScope N__law_take ["_law_pen", "_law_many"] (defScope s__law_take) := ⟨rfl, rfl, rfl, by decide +kernel, rfl, by decide +kernel, by decide +kernel⟩
abbrev s__law_cell : Stmt := top 14
abbrev N__law_cell : List Str := ["_law_pen", "_law_many", "_law_share", "_law_kinds", "_law_goes", "_law_tells"]
theorem sc__law_cell : FnScope N__law_cell ["_law_pen", "_law_many", "_law_share", "_law_kinds"] (defScope s__law_cell) := ⟨rfl, rfl, rfl, by decide +kernel, rfl, by decide +kernel, by decide +kernel⟩
abbrev s__law_near : Stmt := top 15
abbrev N__law_near : List Str := ["_law_pen", "_law_room", "_law_many", "_law_kinds", "_law_cells", "_law_cell_here", "_law_way", "_law_goes", "_law_tells"]
theorem sc__law_near : FnScope N__law_near ["_law_pen", "_law_room", "_law_many", "_law_kinds"] (defScope s__law_near) := ⟨rfl, rfl, rfl, by decide +kernel, rfl, by decide +kernel, by decide +kernel⟩
abbrev s__law_machine : Stmt := top 16
abbrev N__law_machine : List Str := ["_law_pen", "_law_most", "_law_copies", "_law_share", "_law_kinds", "_law_asks", "_law_many", "_law_rooms", "_law_k", "_law_ask"]
theorem sc__law_machine : FnScope N__law_machine ["_law_pen", "_law_most"] (defScope s__law_machine) := ⟨rfl, rfl, rfl, by decide +kernel, rfl, by decide +kernel, by decide +kernel⟩
abbrev s__law_unlike : Stmt := top 17
abbrev N__law_unlike : List Str := ["_law_machine_here", "_law_one", "_law_other", "_law_ask", "_law_first_here", "_law_second"]
theorem sc__law_unlike : FnScope N__law_unlike ["_law_machine_here", "_law_one", "_law_other", "_law_ask"] (defScope s__law_unlike) := ⟨rfl, rfl, rfl, by decide +kernel, rfl, by decide +kernel, by decide +kernel⟩
abbrev s__law_both : Stmt := top 18
abbrev N__law_both : List Str := ["_law_machine_here", "_law_one", "_law_other", "_law_ask", "_law_pair"]
theorem sc__law_both : FnScope N__law_both ["_law_machine_here", "_law_one", "_law_other", "_law_ask"] (defScope s__law_both) := ⟨rfl, rfl, rfl, by decide +kernel, rfl, by decide +kernel, by decide +kernel⟩
abbrev s__law_rings : Stmt := top 19
abbrev N__law_rings : List Str := ["_law_pen", "_law_heard", "_law_asks", "_law_ask", "_law_many", "_law_cut", "_law_left", "_law_names", "_law_k", "_law_rings_here", "_law_spots", "_law_ring", "_law_rooms", "_law_spot", "_law_answer", "_law_cell_here", "_law_other"]
theorem sc__law_rings : FnScope N__law_rings ["_law_pen"] (defScope s__law_rings) := ⟨rfl, rfl, rfl, by decide +kernel, rfl, by decide +kernel, by decide +kernel⟩
abbrev s__law_steps : Stmt := top 20
abbrev N__law_steps : List Str := ["_law_rings_here", "_law_spots", "_law_i", "_law_j", "_law_go_round"]
theorem sc__law_steps : FnScope N__law_steps ["_law_rings_here", "_law_spots", "_law_i", "_law_j"] (defScope s__law_steps) := ⟨rfl, rfl, rfl, by decide +kernel, rfl, by decide +kernel, by decide +kernel⟩
abbrev s__law_said : Stmt := top 21
abbrev N__law_said : List Str := ["_law_machine_here", "_law_one", "_law_other", "_law_row", "_law_first_here", "_law_second"]
theorem sc__law_said : FnScope N__law_said ["_law_machine_here", "_law_one", "_law_other", "_law_row"] (defScope s__law_said) := ⟨rfl, rfl, rfl, by decide +kernel, rfl, by decide +kernel, by decide +kernel⟩
abbrev s__law_rings_right : Stmt := top 22
abbrev N__law_rings_right : List Str := ["_law_pen", "_law_machine_here", "_law_ask", "_law_rings_here", "_law_spots", "_law_due", "_law_places", "_law_i", "_law_j", "_law_k", "_law_long", "_law_row"]
theorem sc__law_rings_right : FnScope N__law_rings_right ["_law_pen"] (defScope s__law_rings_right) := ⟨rfl, rfl, rfl, by decide +kernel, rfl, by decide +kernel, by decide +kernel⟩
abbrev s__law_far : Stmt := top 23
abbrev N__law_far : List Str := ["_law_machine_here", "_law_many", "_law_pairs", "_law_k", "_law_found", "_law_here", "_law_one", "_law_other", "_law_ask", "_law_long", "_law_pair", "_law_later", "_law_met"]
theorem sc__law_far : FnScope N__law_far ["_law_machine_here"] (defScope s__law_far) := ⟨rfl, rfl, rfl, by decide +kernel, rfl, by decide +kernel, by decide +kernel⟩
abbrev s__law_first : Stmt := top 24
abbrev N__law_first : List Str := ["_law_machine_here", "_law_far_here", "_law_one", "_law_other", "_law_row", "_law_asks", "_law_ask", "_law_pair"]
theorem sc__law_first : FnScope N__law_first ["_law_machine_here", "_law_far_here", "_law_one", "_law_other"] (defScope s__law_first) := ⟨rfl, rfl, rfl, by decide +kernel, rfl, by decide +kernel, by decide +kernel⟩
abbrev s__law_late_right : Stmt := top 25
abbrev N__law_late_right : List Str := ["_law_pen", "_law_sizes", "_law_left", "_law_names", "_law_k", "_law_rings_here", "_law_spots", "_law_far_here", "_law_cells", "_law_which", "_law_room", "_law_goes", "_law_machine_here", "_law_one", "_law_other", "_law_row", "_law_bent"]
theorem sc__law_late_right : FnScope N__law_late_right ["_law_pen"] (defScope s__law_late_right) := ⟨rfl, rfl, rfl, by decide +kernel, rfl, by decide +kernel, by decide +kernel⟩
abbrev s_law : Stmt := top 26
abbrev N_law : List Str := ["_law_script", "_law_pen", "_law_machine_here", "_law_far_here", "_law_k", "_law_one", "_law_other", "_law_row"]
theorem sc_law : FnScope N_law ["_law_script"] (defScope s_law) := ⟨rfl, rfl, rfl, by decide +kernel, rfl, by decide +kernel, by decide +kernel⟩
/-- the built-in names that the text has not taken -/
structure Tx (mg : Str → Option Value) : Prop where
  b_len : mg "len" = none
  b_tuple : mg "tuple" = none
  b_range : mg "range" = none
  b_list : mg "list" = none
  b_zip : mg "zip" = none
  b_any : mg "any" = none
  b_repr : mg "repr" = none
  b_enumerate : mg "enumerate" = none
  b_abs : mg "abs" = none
  b_sorted : mg "sorted" = none
  b_int : mg "int" = none
  b_min : mg "min" = none
  b_max : mg "max" = none
/-! ### machines: plain facts -/
abbrev Cell := Option Nat × Option Nat
def optD : Option Nat → D
  | none => .non
  | some n => .int n
def cellD (c : Cell) : D := .tup [optD c.1, optD c.2]
def roomD (r : List Cell) : D := .tup (r.map cellD)
structure Mach where
  asks : Nat
  rooms : List (List Cell)
def machD (m : Mach) : D := .tup [.int m.asks, .tup (m.rooms.map roomD)]
/-- a cell's parts within the bounds -/
def cOk (many kinds : Nat) (c : Cell) : Prop := (∀ g, c.1 = some g → g < many) ∧ ∀ s, c.2 = some s → s < kinds
structure Mach.Ok (m : Mach) (most : Nat) : Prop where
  a0 : 0 < m.asks
  a4 : m.asks ≤ 4
  r0 : 0 < m.rooms.length
  rm : m.rooms.length ≤ most
  ok : ∀ r ∈ m.rooms, r.length = m.asks ∧ ∀ c ∈ r, cOk m.rooms.length 8 c
/-! ### rows gone: plain facts -/
def Mach.cell (m : Mach) (r a : Nat) : Cell := (m.rooms.getD r []).getD a (none, none)
def stepM (m : Mach) (s : List (Option Nat) × Option Nat) (a : Nat) : List (Option Nat) × Option Nat := match s.2 with
  | none => s
  | some r => (s.1 ++ [(m.cell r a).2], (m.cell r a).1)
/-- a row gone: the answers, the room at the end -/
def runM (m : Mach) (h : Option Nat) (row : List Nat) : List (Option Nat) × Option Nat := row.foldl (stepM m) ([], h)
abbrev rowD (row : List Nat) : D := .tup (row.map fun a : Nat => .int a)
theorem runM_snoc (m : Mach) (h : Option Nat) (l : List Nat) (a : Nat) : runM m h (l ++ [a]) = stepM m (runM m h l) a := by unfold runM; rw [List.foldl_append]; rfl
theorem take_next {α : Type} {l : List α} {i : Nat} {x : α} (h : l[i]? = some x) : l.take (i + 1) = l.take i ++ [x] := by rw [List.take_add_one, h]; rfl
theorem map_get {α β : Type} {f : α → β} {l : List α} {i : Nat} {y : β} (h : (l.map f)[i]? = some y) : ∃ x, l[i]? = some x ∧ f x = y := by
  rw [List.getElem?_map] at h
  exact Option.map_eq_some_iff.mp h
theorem fold_none (m : Mach) : ∀ (l : List Nat) (s : List (Option Nat) × Option Nat), s.2 = none → l.foldl (stepM m) s = s
  | [], _, _ => rfl
  | a :: l, s, h => by
    have e : stepM m s a = s := by unfold stepM; rw [h]
    rw [List.foldl_cons, e, fold_none m l s h]
theorem runM_none {m : Mach} {h : Option Nat} {row : List Nat} (i : Nat) (e : (runM m h (row.take i)).2 = none) : runM m h row = runM m h (row.take i) := by
  have e2 : runM m h row = (row.drop i).foldl (stepM m) (runM m h (row.take i)) := by unfold runM; rw [← List.foldl_append, List.take_append_drop]
  rw [e2, fold_none m _ _ e]
theorem runM_le (m : Mach) (h : Option Nat) (l : List Nat) : (runM m h l).1.length ≤ l.length := by
  have H : ∀ (l : List Nat) (s : List (Option Nat) × Option Nat), (l.foldl (stepM m) s).1.length ≤ s.1.length + l.length := by
    intro l
    induction l with
    | nil => intro s; exact Nat.le_refl _
    | cons a l ih =>
      intro s
      rw [List.foldl_cons]
      have h1 := ih (stepM m s a)
      have h2 : (stepM m s a).1.length ≤ s.1.length + 1 := by
        unfold stepM
        split
        · omega
        · rw [List.length_append]; exact Nat.le_refl _
      rw [List.length_cons]
      omega
  have := H l ([], h)
  simpa [runM] using this
/-- what is at a place of a machine -/
theorem mach_at {m : Mach} {most r a : Nat} (hm : m.Ok most) (hr : r < m.rooms.length) (ha : a < m.asks) : (m.rooms.map roomD)[r]? = some (roomD (m.rooms.getD r [])) ∧ ((m.rooms.getD r []).map cellD)[a]? = some (cellD (m.cell r a)) ∧ cOk m.rooms.length 8 (m.cell r a) := by
  have e1 : m.rooms.getD r [] = m.rooms[r] := by rw [List.getD_eq_getElem?_getD, List.getElem?_eq_getElem hr]; rfl
  obtain ⟨hl, hc⟩ := hm.ok _ (List.getElem_mem hr)
  have ha' : a < (m.rooms.getD r []).length := by rw [e1, hl]; exact ha
  have e2 : m.cell r a = (m.rooms.getD r [])[a] := by unfold Mach.cell; rw [List.getD_eq_getElem?_getD (l := m.rooms.getD r []), List.getElem?_eq_getElem ha']; rfl
  refine ⟨by rw [List.getElem?_map, List.getElem?_eq_getElem hr, e1]; rfl, by rw [List.getElem?_map, List.getElem?_eq_getElem ha', e2]; rfl, ?_⟩
  rw [e2]
  exact hc _ (e1 ▸ List.getElem_mem ha')
def RIn (m : Mach) (h : Option Nat) : Prop := ∀ x, h = some x → x < m.rooms.length
def AIn (m : Mach) (row : List Nat) : Prop := ∀ a ∈ row, a < m.asks
theorem runM_in {m : Mach} {most : Nat} (hm : m.Ok most) : ∀ (row : List Nat) (s : List (Option Nat) × Option Nat), RIn m s.2 → AIn m row → RIn m (row.foldl (stepM m) s).2
  | [], _, h, _ => h
  | a :: l, s, h, ha => by
    rw [List.foldl_cons]
    refine runM_in hm l _ ?_ fun b hb => ha b (List.mem_cons_of_mem _ hb)
    unfold stepM
    split
    · exact h
    · rename_i r e
      exact (mach_at hm (h r e) (ha a List.mem_cons_self)).2.2.1
theorem AIn.take {m : Mach} {row : List Nat} (h : AIn m row) (i : Nat) : AIn m (row.take i) := fun a ha => h a (List.mem_of_mem_take ha)
theorem AIn.drop {m : Mach} {row : List Nat} (h : AIn m row) (i : Nat) : AIn m (row.drop i) := fun a ha => h a (List.mem_of_mem_drop ha)
theorem ly_opt : ∀ o : Option Nat, Ly (optD o) 0
  | none => Ly.non
  | some n => Ly.int n
theorem ly_opts (l : List (Option Nat)) : Ly (.lst (l.map optD)) 1 := Ly.lst (Lys.map fun a _ => ly_opt a)
theorem ly_row (l : List Nat) : Ly (rowD l) 1 := Ly.tup (Lys.map fun a _ => Ly.int a)
theorem eqv_row_nil (l : List Nat) : PyData.eqv (rowD l).py (D.tup []).py = decide (l = []) := by
  cases l with
  | nil => exact eqv_same (ly_row [])
  | cons a l =>
    simp only [rowD, D.py, D.pys, List.map_cons, PyData.eqv, PyData.eqvAll]
    simp
/-! ### k09: the pen, machines -/
def S_cell : FS := fun ds μ Φ => ∃ (ns : List Int) (n : Nat) (q : Addr) (i many kinds : Nat) (share : Int), ds = [.ptr q, .int many, .int share, .int kinds] ∧ μ[i]? = some (q, penO ns n) ∧ n ≤ 900000 ∧ (0 < many ∧ many ≤ 1000) ∧ (0 < kinds ∧ kinds ≤ 8) ∧
  ∀ (c : Cell) (n' : Nat) μ', cOk many 8 c → n' ≤ n + 4 → μ' = μ.set i (q, penO ns n') → Φ (cellD c) μ'
def S_near : FS := fun ds μ Φ => ∃ (ns : List Int) (n : Nat) (q : Addr) (i many kinds : Nat) (r : List Cell), ds = [.ptr q, roomD r, .int many, .int kinds] ∧ μ[i]? = some (q, penO ns n) ∧ n ≤ 800000 ∧ (0 < many ∧ many ≤ 1000) ∧ (0 < kinds ∧ kinds ≤ 8) ∧ r.length ≤ 4 ∧ (∀ c ∈ r, cOk many 8 c) ∧
  ∀ (r' : List Cell) (n' : Nat) μ', r'.length = r.length → (∀ c ∈ r', cOk many 8 c) → n' ≤ n + 12 → μ' = μ.set i (q, penO ns n') → Φ (roomD r') μ'
def S_machine : FS := fun ds μ Φ => ∃ (ns : List Int) (n : Nat) (q : Addr) (i most : Nat), ds = [.ptr q, .int most] ∧ μ[i]? = some (q, penO ns n) ∧ n ≤ 700000 ∧ (0 < most ∧ most ≤ 24) ∧
  ∀ (m : Mach) (n' : Nat) μ', m.Ok most → n' ≤ n + 1000 → μ' = μ.set i (q, penO ns n') → Φ (machD m) μ'
section
variable {P : Program} {w : World} {K : PySem.W.Frag} {mg : Str → Option Value} {base : Heap}
theorem ok_take (B : Src K mg "_law_take" s__law_take ["_law_pen", "_law_many"]) (T : Tx mg)  : KnG P w K mg base 1 "_law_take" ["_law_pen", "_law_many"] S_draw := by
  refine kn_ofG B sc__law_take (fun ds μ Φ h => by obtain ⟨_, _, _, _, _, rfl, _⟩ := h; rfl) fun f cdv A outer s H E grd hr ds μ Φ h => ?_
  obtain ⟨ns, n, q, i, many, rfl, hm0, hn, hmany, k0⟩ := h
  refine wSs_open hm0 fun xs hxs => ?_
  obtain ⟨a, l, rfl, ha0, han, hl0⟩ := hxs
  have hm := get_set (y := (q, MO.lst (penL3 ns a l))) hm0
  have k : ∀ (r : Int) (a' l' : Int) (μ1 : Mu), 0 ≤ r → r < many → 0 ≤ a' → a' ≤ n + 1 → 0 ≤ l' → μ1 = μ.set i (q, MO.lst (penL3 ns a' l')) → ∃ (i' : Nat) (q' : Addr) (ds : List D) (P : List D → Prop), μ1[i']? = some (q', .lst ds) ∧ P ds ∧ Φ (.int r) (μ1.set i' (q', .la P)) := fun r a' l' μ1 h0 h1 h2 h3 h4 e => by
    subst e
    refine ⟨i, q, _, penP ns (n + 1), get_set hm0, ⟨a', l', rfl, h2, by omega, h4⟩, ?_⟩
    have := k0 r.toNat _ (by omega) rfl
    rwa [Int.toNat_of_nonneg h0, ← List.set_set (a := (q, MO.lst (penL3 ns a' l')))] at this
  refine wSs_rho (ρ' := [_, _, _, _, _, _, _, _]) rfl ?_
  -- if _law_pen[2] > 0:
  refine w_cons (w_if ?_)
  refine wt_cmp ?_
  refine w_ix ?_
  refine w_name 0 rfl (.inl rfl) rfl ?_
  refine w_int ?_
  refine ix_ptrD i hm 2 rfl rfl ?_
  refine w_int ?_
  walk_at "Gt"
  refine ⟨_, rfl, ?_⟩
  refine ⟨fun hb => ?_, fun hb => ?_⟩
  · -- _law_digit = _law_pen[2] % _law_many
    refine w_cons (w_set 2 sc__law_take.nd rfl (.inl rfl) (.inl rfl) ?_)
    refine w_bin ?_
    refine w_ix ?_
    refine w_name 0 rfl (.inl rfl) rfl ?_
    refine w_int ?_
    refine ix_ptrD i hm 2 rfl rfl ?_
    refine w_name 1 rfl (.inl rfl) rfl ?_
    walk_at "Mod"
    -- _law_pen[2] = _law_pen[2] // _law_many
    refine w_cons (w_lset ?_)
    refine w_bin ?_
    refine w_ix ?_
    refine w_name 0 rfl (.inl rfl) rfl ?_
    refine w_int ?_
    refine ix_ptrD i hm 2 rfl rfl ?_
    refine w_name 1 rfl (.inl rfl) rfl ?_
    walk_at "FloorDiv"
    refine w_name 0 rfl (.inl rfl) rfl ?_
    refine w_int ?_
    refine ⟨_, i, _, 2, rfl, rfl, hm, (by show 2 < 3; decide), ?_⟩
    rw [penL3_2, List.set_set]
    -- return _law_digit
    refine w_cons (w_ret (w_close ?_))
    refine w_name 2 rfl (.inl rfl) rfl ?_
    exact k _ a (l / many) _ (Int.emod_nonneg _ (by omega)) (Int.emod_lt_of_pos _ (by omega)) (by omega) (by omega) (Int.ediv_nonneg hl0 (by omega)) rfl
  refine w_nil ?_
  -- _law_at = _law_pen[1]
  refine w_cons (w_set 3 sc__law_take.nd rfl (.inl rfl) (.inl rfl) ?_)
  refine w_ix ?_
  refine w_name 0 rfl (.inl rfl) rfl ?_
  refine w_int ?_
  refine ix_ptrD i hm 1 rfl rfl ?_
  -- _law_pen[1] = _law_at + 1
  refine w_cons (w_lset ?_)
  refine w_bin ?_
  refine w_name 3 rfl (.inl rfl) rfl ?_
  refine w_int ?_
  first | refine o_addN (b := 1) ?_ | walk_at "Add"
  refine w_name 0 rfl (.inl rfl) rfl ?_
  refine w_int ?_
  refine ⟨_, i, _, 1, rfl, rfl, hm, (by show 1 < 3; decide), ?_⟩
  rw [penL3_1, List.set_set]
  have hm2 := get_set (y := (q, MO.lst (penL3 ns (a + 1) l))) hm0
  -- _law_cell_here = 7
  refine w_cons (w_set 4 sc__law_take.nd rfl (.inl rfl) (.inl rfl) ?_)
  refine w_int ?_
  -- if len(_law_pen[0]) > 0:
  refine w_cutV [4] (fun vs μ' => ∃ (c : Int), vs = [some (.int c)] ∧ μ.set i (q, MO.lst (penL3 ns (a + 1) l)) = μ') (w_if ?_) ?_
  · refine wt_cmp ?_
    refine w_callB (id := "len") T.b_len ?_
    refine wa_cons ?_
    refine w_ix ?_
    refine w_name 0 rfl (.inl rfl) rfl ?_
    refine w_int ?_
    refine ix_ptrD i hm2 0 rfl rfl ?_
    refine wa_nil ?_
    walk_at "c_len"
    rw [List.length_map]
    refine w_int ?_
    walk_at "Gt"
    refine ⟨_, rfl, ?_⟩
    refine ⟨fun hb => ?_, fun hb => ?_⟩
    · -- _law_cell_here = _law_pen[0][_law_at % len(_law_pen[0])]
      refine w_cons (w_set 4 sc__law_take.nd rfl (.inl rfl) (.inl rfl) ?_)
      refine w_ix ?_
      refine w_ix ?_
      refine w_name 0 rfl (.inl rfl) rfl ?_
      refine w_int ?_
      have hpos : 0 < ns.length := by have := of_decide_eq_true hb; omega
      refine ix_ptrD i hm2 0 rfl rfl ?_
      refine w_bin ?_
      refine w_name 3 rfl (.inl rfl) rfl ?_
      refine w_callB (id := "len") T.b_len ?_
      refine wa_cons ?_
      refine w_ix ?_
      refine w_name 0 rfl (.inl rfl) rfl ?_
      refine w_int ?_
      refine ix_ptrD i hm2 0 rfl rfl ?_
      refine wa_nil ?_
      walk_at "c_len"
      rw [List.length_map]
      walk_at "Mod"
      have hr0 : 0 ≤ a % (ns.length : Int) := Int.emod_nonneg _ (by omega)
      have hr1 : a % (ns.length : Int) < ns.length := Int.emod_lt_of_pos _ (by omega)
      have hlt : (a % (ns.length : Int)).toNat < ns.length := by omega
      refine ix_scrD (a % (ns.length : Int)).toNat (Int.toNat_of_nonneg hr0).symm (by rw [List.getElem?_map, List.getElem?_eq_getElem hlt]; rfl) ?_
      generalize ns[(a % (ns.length : Int)).toNat] = c
      refine w_nil ?_
      exact ⟨[_], rfl, ⟨c, rfl, rfl⟩⟩
    · refine w_nil ?_
      exact ⟨[_], rfl, ⟨_, rfl, rfl⟩⟩
  rintro vs μ' ⟨c, rfl, rfl⟩
  refine wSs_rho (ρ' := [_, _, _, _, _, _, _, _]) rfl ?_
  have habs := absN c
  -- if _law_at < len(_law_pen[0]) and abs(_law_cell_here) >= 10 ** 18:
  refine w_cons (w_if ?_)
  refine wt_b ((decide (a < (ns.length : Int)) && decide ((if c < 0 then -c else c) ≥ (10 : Int) ^ (18 : Int).toNat))) ?_ ?_
  · refine wt_w ?_
    refine ww_and ?_
    refine wt_cmp ?_
    refine w_name 3 rfl (.inl rfl) rfl ?_
    refine w_callB (id := "len") T.b_len ?_
    refine wa_cons ?_
    refine w_ix ?_
    refine w_name 0 rfl (.inl rfl) rfl ?_
    refine w_int ?_
    refine ix_ptrD i hm2 0 rfl rfl ?_
    refine wa_nil ?_
    walk_at "c_len"
    rw [List.length_map]
    walk_at "Lt"
    refine ⟨_, rfl, ?_⟩
    refine ⟨fun hb0 => ?_, fun hb0 => ⟨(by rw [hb0]; rfl), rfl⟩⟩
    refine ww_and1 ?_
    refine wt_cmp ?_
    refine w_callB (id := "abs") T.b_abs ?_
    refine wa_cons ?_
    refine w_name 4 rfl (.inl rfl) rfl ?_
    refine wa_nil ?_
    walk_at "c_abs"
    refine w_bin ?_
    refine w_int ?_
    refine w_int ?_
    walk_at "Pow"
    walk_at "GtE"
    refine ⟨_, rfl, ?_⟩
    exact ⟨(by rw [hb0]; rfl), rfl⟩
  refine ⟨fun hb => ?_, fun hb => ?_⟩
  · -- _law_pen[2] = abs(_law_cell_here) // _law_many
    refine w_cons (w_lset ?_)
    refine w_bin ?_
    refine w_callB (id := "abs") T.b_abs ?_
    refine wa_cons ?_
    refine w_name 4 rfl (.inl rfl) rfl ?_
    refine wa_nil ?_
    walk_at "c_abs"
    refine w_name 1 rfl (.inl rfl) rfl ?_
    walk_at "FloorDiv"
    refine w_name 0 rfl (.inl rfl) rfl ?_
    refine w_int ?_
    refine ⟨_, i, _, 2, rfl, rfl, hm2, (by show 2 < 3; decide), ?_⟩
    rw [penL3_2, List.set_set]
    -- return abs(_law_cell_here) % _law_many
    refine w_cons (w_ret (w_close ?_))
    refine w_bin ?_
    refine w_callB (id := "abs") T.b_abs ?_
    refine wa_cons ?_
    refine w_name 4 rfl (.inl rfl) rfl ?_
    refine wa_nil ?_
    walk_at "c_abs"
    refine w_name 1 rfl (.inl rfl) rfl ?_
    walk_at "Mod"
    exact k _ (a + 1) ((if c < 0 then -c else c) / many) _ (Int.emod_nonneg _ (by omega)) (Int.emod_lt_of_pos _ (by omega)) (by omega) (by omega) (Int.ediv_nonneg habs (by omega)) (by first | rfl | rw [List.set_set])
  refine w_nil ?_
  -- _law_primes = [2147483647, 2147483629, 2147483587, 2147483579, 2147483563, 2147483549, 2147483543]
  refine w_cons (w_set 5 sc__law_take.nd rfl (.inl rfl) (.inl rfl) ?_)
  refine w_lst ?_
  refine wa_cons ?_
  refine w_int ?_
  refine wa_cons ?_
  refine w_int ?_
  refine wa_cons ?_
  refine w_int ?_
  refine wa_cons ?_
  refine w_int ?_
  refine wa_cons ?_
  refine w_int ?_
  refine wa_cons ?_
  refine w_int ?_
  refine wa_cons ?_
  refine w_int ?_
  refine wa_nil ?_
  refine ⟨by simp, ?_⟩
  -- _law_prime = _law_primes[_law_at % 7]
  refine w_cons (w_set 6 sc__law_take.nd rfl (.inl rfl) (.inl rfl) ?_)
  refine w_ix ?_
  refine w_name 5 rfl (.inl rfl) rfl ?_
  refine w_bin ?_
  refine w_name 3 rfl (.inl rfl) rfl ?_
  refine w_int ?_
  walk_at "Mod"
  refine ix_lit [2147483647, 2147483629, 2147483587, 2147483579, 2147483563, 2147483549, 2147483543] (Int.emod_nonneg _ (by decide)) (by show a % 7 < 7; omega) fun p hp => ?_
  have hp' : 0 < p ∧ p ≤ 2147483647 := by simp at hp; omega
  -- _law_number = (_law_cell_here % _law_prime * 48271 + 40009 * _law_at + 21) % _law_prime
  refine w_cons (w_set 7 sc__law_take.nd rfl (.inl rfl) (.inl rfl) ?_)
  refine w_bin ?_
  refine w_bin ?_
  refine w_bin ?_
  refine w_bin ?_
  refine w_bin ?_
  refine w_name 4 rfl (.inl rfl) rfl ?_
  refine w_name 6 rfl (.inl rfl) rfl ?_
  walk_at "Mod"
  refine w_int ?_
  first | refine o_mulN (b := 48271) (by omega) ?_ | walk_at "Mult"
  refine w_bin ?_
  refine w_int ?_
  refine w_name 3 rfl (.inl rfl) rfl ?_
  first | refine o_mulN (a := 40009) (by omega) ?_ | walk_at "Mult"
  first | refine o_addN ?_ | walk_at "Add"
  refine w_int ?_
  first | refine o_addN (b := 21) ?_ | walk_at "Add"
  refine w_name 6 rfl (.inl rfl) rfl ?_
  walk_at "Mod"
  have hx0 := Int.emod_nonneg (c % p * 48271 + 40009 * a + 21) (show p ≠ 0 by omega)
  have hx1 := Int.emod_lt_of_pos (c % p * 48271 + 40009 * a + 21) (show 0 < p by omega)
  generalize (c % p * 48271 + 40009 * a + 21) % p = x at hx0 hx1
  -- _law_number = (_law_number ** 3 * 69621 + _law_at * _law_at + 5) % _law_primes[(_law_at + 3) % 7]
  refine w_cons (w_set 7 sc__law_take.nd rfl (.inl rfl) (.inl rfl) ?_)
  refine w_bin ?_
  refine w_bin ?_
  refine w_bin ?_
  refine w_bin ?_
  refine w_bin ?_
  refine w_name 7 rfl (.inl rfl) rfl ?_
  refine w_int ?_
  walk_at "Pow"
  refine w_int ?_
  first | refine o_mulN (b := 69621) (by omega) ?_ | walk_at "Mult"
  refine w_bin ?_
  refine w_name 3 rfl (.inl rfl) rfl ?_
  refine w_name 3 rfl (.inl rfl) rfl ?_
  first | refine o_mulN (by omega) ?_ | walk_at "Mult"
  first | refine o_addN ?_ | walk_at "Add"
  refine w_int ?_
  first | refine o_addN (b := 5) ?_ | walk_at "Add"
  refine w_ix ?_
  refine w_name 5 rfl (.inl rfl) rfl ?_
  refine w_bin ?_
  refine w_bin ?_
  refine w_name 3 rfl (.inl rfl) rfl ?_
  refine w_int ?_
  first | refine o_addN (b := 3) ?_ | walk_at "Add"
  refine w_int ?_
  walk_at "Mod"
  refine ix_lit [2147483647, 2147483629, 2147483587, 2147483579, 2147483563, 2147483549, 2147483543] (Int.emod_nonneg _ (by decide)) (by show (a + 3) % 7 < 7; omega) fun p2 hp2 => ?_
  have hp2' : 0 < p2 ∧ p2 ≤ 2147483647 := by simp at hp2; omega
  walk_at "Mod"
  -- return _law_number // 64 % _law_many
  refine w_cons (w_ret (w_close ?_))
  refine w_bin ?_
  refine w_bin ?_
  refine w_name 7 rfl (.inl rfl) rfl ?_
  refine w_int ?_
  walk_at "FloorDiv"
  refine w_name 1 rfl (.inl rfl) rfl ?_
  walk_at "Mod"
  exact k _ (a + 1) l _ (Int.emod_nonneg _ (by omega)) (Int.emod_lt_of_pos _ (by omega)) (by omega) (by omega) hl0 rfl
theorem ok_cell (B : Src K mg "_law_cell" s__law_cell ["_law_pen", "_law_many", "_law_share", "_law_kinds"]) (T : Tx mg) (G__law_take : KnG P w K mg base 1 "_law_take" ["_law_pen", "_law_many"] S_draw) : KnG P w K mg base 2 "_law_cell" ["_law_pen", "_law_many", "_law_share", "_law_kinds"] S_cell := by
  refine kn_ofG B sc__law_cell (fun ds μ Φ h => by obtain ⟨_, _, _, _, _, _, _, rfl, _⟩ := h; rfl) fun f cdv A outer s H E grd hr ds μ Φ h => ?_
  obtain ⟨ns, n, q, ip, many, kinds, share, rfl, hpen, hn, hmany, hkinds, k⟩ := h
  refine wSs_rho (ρ' := [_, _, _, _, _, _]) rfl ?_
  -- _law_goes = None
  refine w_cons (w_set 4 sc__law_cell.nd rfl (.inl rfl) (.inl rfl) ?_)
  refine w_non ?_
  -- if _law_take(_law_pen, 8) >= _law_share:
  refine w_cutV [4] (fun vs μ' => ∃ (g : Option Nat) (c : Nat), (∀ x, g = some x → x < many) ∧ (c ≤ n + 2) ∧ vs = [some (optD g)] ∧ μ.set ip (q, penO ns c) = μ') (w_if ?_) ?_
  · refine wt_cmp ?_
    refine w_callG G__law_take hr ?_
    refine wa_cons ?_
    refine w_name 0 rfl (.inl rfl) rfl ?_
    refine wa_cons ?_
    refine w_int ?_
    refine wa_nil ?_
    refine ⟨_, _, _, _, _, rfl, by walk_at "pen", by omega, by omega, fun r1 μ1 hr1 e1 => ?_⟩
    try simp only [List.set_cons_succ, List.set_set, List.set_cons_zero] at e1
    subst e1
    refine w_name 2 rfl (.inl rfl) rfl ?_
    walk_at "GtE"
    refine ⟨_, rfl, ?_⟩
    refine ⟨fun hb => ?_, fun hb => ?_⟩
    · -- _law_goes = _law_take(_law_pen, _law_many)
      refine w_cons (w_set 4 sc__law_cell.nd rfl (.inl rfl) (.inl rfl) ?_)
      refine w_callG G__law_take hr ?_
      refine wa_cons ?_
      refine w_name 0 rfl (.inl rfl) rfl ?_
      refine wa_cons ?_
      refine w_name 1 rfl (.inl rfl) rfl ?_
      refine wa_nil ?_
      refine ⟨_, _, _, _, _, rfl, by walk_at "pen", by omega, by omega, fun r2 μ2 hr2 e2 => ?_⟩
      try simp only [List.set_cons_succ, List.set_set, List.set_cons_zero] at e2
      subst e2
      refine w_nil ?_
      exact ⟨[_], rfl, ⟨some r2, n + 1 + 1, (fun x e => by cases e; omega), (by omega), rfl, rfl⟩⟩
    · refine w_nil ?_
      exact ⟨[_], rfl, ⟨none, n + 1, (fun x e => (nomatch e)), (by omega), rfl, rfl⟩⟩
  rintro vs μ' ⟨g, c, hg, hc, rfl, rfl⟩
  refine wSs_rho (ρ' := [_, _, _, _, _, _]) rfl ?_
  -- _law_tells = None
  refine w_cons (w_set 5 sc__law_cell.nd rfl (.inl rfl) (.inl rfl) ?_)
  refine w_non ?_
  -- if _law_take(_law_pen, 8) >= _law_share:
  refine w_cutV [5] (fun vs μ' => ∃ (u : Option Nat) (c2 : Nat), (∀ x, u = some x → x < 8) ∧ (c2 ≤ c + 2) ∧ vs = [some (optD u)] ∧ μ.set ip (q, penO ns c2) = μ') (w_if ?_) ?_
  · refine wt_cmp ?_
    refine w_callG G__law_take hr ?_
    refine wa_cons ?_
    refine w_name 0 rfl (.inl rfl) rfl ?_
    refine wa_cons ?_
    refine w_int ?_
    refine wa_nil ?_
    refine ⟨_, _, _, _, _, rfl, by walk_at "pen", by omega, by omega, fun r3 μ3 hr3 e3 => ?_⟩
    try simp only [List.set_cons_succ, List.set_set, List.set_cons_zero] at e3
    subst e3
    refine w_name 2 rfl (.inl rfl) rfl ?_
    walk_at "GtE"
    refine ⟨_, rfl, ?_⟩
    refine ⟨fun hb => ?_, fun hb => ?_⟩
    · -- _law_tells = _law_take(_law_pen, _law_kinds)
      refine w_cons (w_set 5 sc__law_cell.nd rfl (.inl rfl) (.inl rfl) ?_)
      refine w_callG G__law_take hr ?_
      refine wa_cons ?_
      refine w_name 0 rfl (.inl rfl) rfl ?_
      refine wa_cons ?_
      refine w_name 3 rfl (.inl rfl) rfl ?_
      refine wa_nil ?_
      refine ⟨_, _, _, _, _, rfl, by walk_at "pen", by omega, by omega, fun r4 μ4 hr4 e4 => ?_⟩
      try simp only [List.set_cons_succ, List.set_set, List.set_cons_zero] at e4
      subst e4
      refine w_nil ?_
      exact ⟨[_], rfl, ⟨some r4, c + 1 + 1, (fun x e => by cases e; omega), (by omega), rfl, rfl⟩⟩
    · refine w_nil ?_
      exact ⟨[_], rfl, ⟨none, c + 1, (fun x e => (nomatch e)), (by omega), rfl, rfl⟩⟩
  rintro vs μ' ⟨u, c2, hu, hc2, rfl, rfl⟩
  refine wSs_rho (ρ' := [_, _, _, _, _, _]) rfl ?_
  -- return (_law_goes, _law_tells)
  refine w_cons (w_ret ?_)
  refine w_tup ?_
  refine wa_cons ?_
  refine w_name 4 rfl (.inl rfl) rfl ?_
  refine wa_cons ?_
  refine w_name 5 rfl (.inl rfl) rfl ?_
  refine wa_nil ?_
  refine ⟨by simp, ?_⟩
  exact k (g, u) c2 _ ⟨hg, hu⟩ (by omega) rfl
theorem ok_near (B : Src K mg "_law_near" s__law_near ["_law_pen", "_law_room", "_law_many", "_law_kinds"]) (T : Tx mg) (G__law_take : KnG P w K mg base 1 "_law_take" ["_law_pen", "_law_many"] S_draw) : KnG P w K mg base 2 "_law_near" ["_law_pen", "_law_room", "_law_many", "_law_kinds"] S_near := by
  refine kn_ofG B sc__law_near (fun ds μ Φ h => by obtain ⟨_, _, _, _, _, _, _, rfl, _⟩ := h; rfl) fun f cdv A outer s H E grd hr ds μ Φ h => ?_
  obtain ⟨ns, n, q, ip, many, kinds, r, rfl, hpen, hn, hmany, hkinds, hrl, hrok, k⟩ := h
  refine wSs_rho (ρ' := [_, _, _, _, _, _, _, _, _]) rfl ?_
  -- _law_cells = []
  refine w_cons (w_set 4 sc__law_near.nd rfl (.inl rfl) (.inl rfl) ?_)
  refine w_lstM ?_
  refine wa_nil ?_
  refine ⟨by simp, fun pr => ?_⟩
  -- for _law_cell_here in _law_room:
  refine w_cons (w_forV [5, 6, 7, 8] ?_ PassesOwn.never rfl)
  refine wi_tup ?_
  refine w_name 1 rfl (.inl rfl) rfl ?_
  refine ⟨_, rfl, ?_⟩
  refine ⟨_, fun i vs μ' => ∃ (R : List Cell) (c : Nat) (w5 w6 w7 w8 : Option D), (R.length = i) ∧ (∀ x ∈ R, cOk many 8 x) ∧ (c ≤ n + 3 * i) ∧ vs = [w5, w6, w7, w8] ∧ (pr, .lst (R.map cellD)) :: μ.set ip (q, penO ns c) = μ', (by first | exact nats_len | exact nats2_len | exact enumD_len.trans (List.length_map _) | exact enumD_len | exact List.length_map _ | exact rfl | simp), ⟨[], n, _, _, _, _, rfl, (fun x hx => (nomatch hx)), (by omega), rfl, (by rw [set_same hpen]; rfl)⟩, ?_, ?_⟩
  · rintro icell_here x vs μ' hx ⟨R, c, w5, w6, w7, w8, hRl, hR, hc, rfl, rfl⟩
    refine wG_rho (ρ' := [_, _, _, _, _, _, _, _, _]) rfl ?_
    obtain ⟨⟨g, t⟩, hcg, rfl⟩ := map_get hx
    obtain ⟨hg0, ht0⟩ := hrok _ (List.mem_of_getElem? hcg)
    have hil := (List.getElem?_eq_some_iff.mp hcg).1
    refine wg_name 5 sc__law_near.nd rfl (.inl rfl) (.inl rfl) ?_
    -- _law_way = _law_take(_law_pen, 8)
    refine w_cons (w_set 6 sc__law_near.nd rfl (.inl rfl) (.inl rfl) ?_)
    refine w_callG G__law_take hr ?_
    refine wa_cons ?_
    refine w_name 0 rfl (.inl rfl) rfl ?_
    refine wa_cons ?_
    refine w_int ?_
    refine wa_nil ?_
    refine ⟨_, _, _, _, _, rfl, by walk_at "pen", by omega, by omega, fun r1 μ1 hr1 e1 => ?_⟩
    try simp only [List.set_cons_succ, List.set_set, List.set_cons_zero] at e1
    subst e1
    -- _law_goes, _law_tells = _law_cell_here
    refine w_cons (w_asg ?_)
    refine w_name 5 rfl (.inl rfl) rfl ?_
    first | refine wg_tup rfl rfl ?_ | refine wg_lst rfl rfl ?_
    refine wgs_cons ?_
    refine wg_name 7 sc__law_near.nd rfl (.inl rfl) (.inl rfl) ?_
    refine wgs_cons ?_
    refine wg_name 8 sc__law_near.nd rfl (.inl rfl) (.inl rfl) ?_
    refine wgs_nil ?_
    -- if _law_way == 0:
    refine w_cutV [7] (fun vs μ' => ∃ (g1 : Option Nat), (∀ x, g1 = some x → x < many) ∧ vs = [some (optD g1)] ∧ (pr, .lst (R.map cellD)) :: μ.set ip (q, penO ns (c + 1)) = μ') (w_if ?_) ?_
    · refine wt_cmp ?_
      refine w_name 6 rfl (.inl rfl) rfl ?_
      refine w_int ?_
      walk_at "Eq"
      refine ⟨_, rfl, ?_⟩
      refine ⟨fun hb => ?_, fun hb => ?_⟩
      · -- _law_goes = None
        refine w_cons (w_set 7 sc__law_near.nd rfl (.inl rfl) (.inl rfl) ?_)
        refine w_non ?_
        refine w_nil ?_
        exact ⟨[_], rfl, ⟨none, (fun x e => (nomatch e)), rfl, rfl⟩⟩
      · refine w_nil ?_
        exact ⟨[_], rfl, ⟨g, hg0, rfl, rfl⟩⟩
    rintro vs μ' ⟨g1, hg1, rfl, rfl⟩
    refine wSs_rho (ρ' := [_, _, _, _, _, _, _, _, _]) rfl ?_
    -- if _law_way == 1:
    refine w_cutV [8] (fun vs μ' => ∃ (t1 : Option Nat), (∀ x, t1 = some x → x < 8) ∧ vs = [some (optD t1)] ∧ (pr, .lst (R.map cellD)) :: μ.set ip (q, penO ns (c + 1)) = μ') (w_if ?_) ?_
    · refine wt_cmp ?_
      refine w_name 6 rfl (.inl rfl) rfl ?_
      refine w_int ?_
      walk_at "Eq"
      refine ⟨_, rfl, ?_⟩
      refine ⟨fun hb => ?_, fun hb => ?_⟩
      · -- _law_tells = None
        refine w_cons (w_set 8 sc__law_near.nd rfl (.inl rfl) (.inl rfl) ?_)
        refine w_non ?_
        refine w_nil ?_
        exact ⟨[_], rfl, ⟨none, (fun x e => (nomatch e)), rfl, rfl⟩⟩
      · refine w_nil ?_
        exact ⟨[_], rfl, ⟨t, ht0, rfl, rfl⟩⟩
    rintro vs μ' ⟨t1, ht1, rfl, rfl⟩
    refine wSs_rho (ρ' := [_, _, _, _, _, _, _, _, _]) rfl ?_
    -- if _law_way == 2:
    refine w_cutV [7] (fun vs μ' => ∃ (g2 : Option Nat) (c2 : Nat), (∀ x, g2 = some x → x < many) ∧ (c2 ≤ c + 2) ∧ vs = [some (optD g2)] ∧ (pr, .lst (R.map cellD)) :: μ.set ip (q, penO ns c2) = μ') (w_if ?_) ?_
    · refine wt_cmp ?_
      refine w_name 6 rfl (.inl rfl) rfl ?_
      refine w_int ?_
      walk_at "Eq"
      refine ⟨_, rfl, ?_⟩
      refine ⟨fun hb => ?_, fun hb => ?_⟩
      · -- _law_goes = _law_take(_law_pen, _law_many)
        refine w_cons (w_set 7 sc__law_near.nd rfl (.inl rfl) (.inl rfl) ?_)
        refine w_callG G__law_take hr ?_
        refine wa_cons ?_
        refine w_name 0 rfl (.inl rfl) rfl ?_
        refine wa_cons ?_
        refine w_name 2 rfl (.inl rfl) rfl ?_
        refine wa_nil ?_
        refine ⟨_, _, _, _, _, rfl, by walk_at "pen", by omega, by omega, fun r2 μ2 hr2 e2 => ?_⟩
        try simp only [List.set_cons_succ, List.set_set, List.set_cons_zero] at e2
        subst e2
        refine w_nil ?_
        exact ⟨[_], rfl, ⟨some r2, c + 1 + 1, (fun x e => by cases e; omega), (by omega), rfl, rfl⟩⟩
      · refine w_nil ?_
        exact ⟨[_], rfl, ⟨g1, c + 1, hg1, (by omega), rfl, rfl⟩⟩
    rintro vs μ' ⟨g2, c2, hg2, hc2, rfl, rfl⟩
    refine wSs_rho (ρ' := [_, _, _, _, _, _, _, _, _]) rfl ?_
    -- if _law_way == 3:
    refine w_cutV [8] (fun vs μ' => ∃ (t2 : Option Nat) (c3 : Nat), (∀ x, t2 = some x → x < 8) ∧ (c3 ≤ c2 + 1) ∧ vs = [some (optD t2)] ∧ (pr, .lst (R.map cellD)) :: μ.set ip (q, penO ns c3) = μ') (w_if ?_) ?_
    · refine wt_cmp ?_
      refine w_name 6 rfl (.inl rfl) rfl ?_
      refine w_int ?_
      walk_at "Eq"
      refine ⟨_, rfl, ?_⟩
      refine ⟨fun hb => ?_, fun hb => ?_⟩
      · -- _law_tells = _law_take(_law_pen, _law_kinds)
        refine w_cons (w_set 8 sc__law_near.nd rfl (.inl rfl) (.inl rfl) ?_)
        refine w_callG G__law_take hr ?_
        refine wa_cons ?_
        refine w_name 0 rfl (.inl rfl) rfl ?_
        refine wa_cons ?_
        refine w_name 3 rfl (.inl rfl) rfl ?_
        refine wa_nil ?_
        refine ⟨_, _, _, _, _, rfl, by walk_at "pen", by omega, by omega, fun r3 μ3 hr3 e3 => ?_⟩
        try simp only [List.set_cons_succ, List.set_set, List.set_cons_zero] at e3
        subst e3
        refine w_nil ?_
        exact ⟨[_], rfl, ⟨some r3, c2 + 1, (fun x e => by cases e; omega), (by omega), rfl, rfl⟩⟩
      · refine w_nil ?_
        exact ⟨[_], rfl, ⟨t1, c2, ht1, (by omega), rfl, rfl⟩⟩
    rintro vs μ' ⟨t2, c3, ht2, hc3, rfl, rfl⟩
    refine wSs_rho (ρ' := [_, _, _, _, _, _, _, _, _]) rfl ?_
    -- _law_cells.append((_law_goes, _law_tells))
    refine w_cons (w_expr ?_)
    refine w_append ?_
    refine w_name 4 rfl (.inl rfl) rfl ?_
    first | refine ⟨.inl ⟨rfl, 0, _, rfl⟩, ?_⟩ | refine ⟨.inl ⟨rfl, 1, _, rfl⟩, ?_⟩ | refine ⟨.inl ⟨rfl, 2, _, rfl⟩, ?_⟩ | refine ⟨.inl ⟨rfl, 3, _, rfl⟩, ?_⟩ | refine ⟨rfl, ?_⟩
    refine wa_cons ?_
    refine w_tup ?_
    refine wa_cons ?_
    refine w_name 7 rfl (.inl rfl) rfl ?_
    refine wa_cons ?_
    refine w_name 8 rfl (.inl rfl) rfl ?_
    refine wa_nil ?_
    refine ⟨by simp, ?_⟩
    refine wa_nil ?_
    refine m_append 0 rfl (by rw [List.length_map]; omega) ?_
    refine w_nil ?_
    exact ⟨[_, _, _, _], rfl, ⟨R ++ [(g2, t2)], c3, _, _, _, _, (by rw [List.length_append, hRl]; rfl), (by intro x hx; rcases List.mem_append.mp hx with hx | hx; exact hR x hx; rw [List.mem_singleton] at hx; subst hx; exact ⟨hg2, ht2⟩), (by omega), rfl, (by rw [List.map_append]; rfl)⟩⟩
  rintro vs μ' ⟨R, c, w5, w6, w7, w8, hRl, hR, hc, rfl, rfl⟩
  refine wSs_rho (ρ' := [_, _, _, _, _, _, _, _, _]) rfl ?_
  -- return tuple(_law_cells)
  refine w_cons (w_ret (w_dr ?_))
  refine w_callTy (T := "tuple") T.b_tuple ?_
  refine wa_cons ?_
  refine w_name 4 rfl (.inl rfl) rfl ?_
  refine wa_nil ?_
  walk_at "c_tuple"
  exact ⟨_, List.sublist_cons_self _ _, k R c _ (by omega) hR (by omega) rfl⟩
theorem ok_machine (B : Src K mg "_law_machine" s__law_machine ["_law_pen", "_law_most"]) (T : Tx mg) (G__law_take : KnG P w K mg base 1 "_law_take" ["_law_pen", "_law_many"] S_draw) (G__law_near : KnG P w K mg base 2 "_law_near" ["_law_pen", "_law_room", "_law_many", "_law_kinds"] S_near) (G__law_cell : KnG P w K mg base 2 "_law_cell" ["_law_pen", "_law_many", "_law_share", "_law_kinds"] S_cell) : KnG P w K mg base 3 "_law_machine" ["_law_pen", "_law_most"] S_machine := by
  refine kn_ofG B sc__law_machine (fun ds μ Φ h => by obtain ⟨_, _, _, _, _, rfl, _⟩ := h; rfl) fun f cdv A outer s H E grd hr ds μ Φ h => ?_
  obtain ⟨ns, n, q, ip, most, rfl, hpen, hn, hmost, kk⟩ := h
  refine wSs_rho (ρ' := [_, _, _, _, _, _, _, _, _, _]) rfl ?_
  -- _law_copies = _law_take(_law_pen, 3)
  refine w_cons (w_set 2 sc__law_machine.nd rfl (.inl rfl) (.inl rfl) ?_)
  refine w_callG G__law_take hr ?_
  refine wa_cons ?_
  refine w_name 0 rfl (.inr (.inl rfl)) rfl ?_
  refine wa_cons ?_
  refine w_int ?_
  refine wa_nil ?_
  refine ⟨_, _, _, _, _, rfl, by walk_at "pen", by omega, by omega, fun r1 μ1 hr1 e1 => ?_⟩
  try simp only [List.set_cons_succ, List.set_set, List.set_cons_zero] at e1
  subst e1
  -- _law_share = [0, 1, 2, 5][_law_take(_law_pen, 4)]
  refine w_cons (w_set 3 sc__law_machine.nd rfl (.inr rfl) (.inl rfl) ?_)
  refine w_ix ?_
  refine w_lst ?_
  refine wa_cons ?_
  refine w_int ?_
  refine wa_cons ?_
  refine w_int ?_
  refine wa_cons ?_
  refine w_int ?_
  refine wa_cons ?_
  refine w_int ?_
  refine wa_nil ?_
  refine ⟨by simp, ?_⟩
  refine w_callG G__law_take hr ?_
  refine wa_cons ?_
  refine w_name 0 rfl (.inr (.inl rfl)) rfl ?_
  refine wa_cons ?_
  refine w_int ?_
  refine wa_nil ?_
  refine ⟨_, _, _, _, _, rfl, by walk_at "pen", by omega, by omega, fun r2 μ2 hr2 e2 => ?_⟩
  try simp only [List.set_cons_succ, List.set_set, List.set_cons_zero] at e2
  subst e2
  first | refine ix_litN [0, 1, 2, 5] (by show (_ : Nat) < 4; omega) fun x1 hx1 => ?_ | refine ix_lit [0, 1, 2, 5] (by omega) (by show (_ : Int) < 4; omega) fun x1 hx1 => ?_
  have hb1 : 0 ≤ x1 ∧ x1 ≤ 5 := by simp at hx1; omega
  obtain ⟨share, hshare⟩ : ∃ share, share = x1 := ⟨_, rfl⟩
  rw [← hshare]
  -- _law_kinds = [1, 2, 3, 8][_law_take(_law_pen, 4)]
  refine w_cons (w_set 4 sc__law_machine.nd rfl (.inr rfl) (.inl rfl) ?_)
  refine w_ix ?_
  refine w_lst ?_
  refine wa_cons ?_
  refine w_int ?_
  refine wa_cons ?_
  refine w_int ?_
  refine wa_cons ?_
  refine w_int ?_
  refine wa_cons ?_
  refine w_int ?_
  refine wa_nil ?_
  refine ⟨by simp, ?_⟩
  refine w_callG G__law_take hr ?_
  refine wa_cons ?_
  refine w_name 0 rfl (.inr (.inl rfl)) rfl ?_
  refine wa_cons ?_
  refine w_int ?_
  refine wa_nil ?_
  refine ⟨_, _, _, _, _, rfl, by walk_at "pen", by omega, by omega, fun r3 μ3 hr3 e3 => ?_⟩
  try simp only [List.set_cons_succ, List.set_set, List.set_cons_zero] at e3
  subst e3
  obtain ⟨kinds, hkd, hkinds⟩ : ∃ kinds : Nat, [D.int 1, D.int 2, D.int 3, D.int 8][r3]? = some (.int kinds) ∧ 0 < kinds ∧ kinds ≤ 8 := by
    have h4 : r3 < 4 := by omega
    match r3, h4 with
    | 0, _ => exact ⟨1, rfl, by decide, by decide⟩
    | 1, _ => exact ⟨2, rfl, by decide, by decide⟩
    | 2, _ => exact ⟨3, rfl, by decide, by decide⟩
    | 3, _ => exact ⟨8, rfl, by decide, by decide⟩
  refine ix_lstD r3 rfl hkd ?_
  -- _law_asks = 1 + _law_take(_law_pen, 4)
  refine w_cons (w_set 5 sc__law_machine.nd rfl (.inl rfl) (.inl rfl) ?_)
  refine w_bin ?_
  refine w_int ?_
  refine w_callG G__law_take hr ?_
  refine wa_cons ?_
  refine w_name 0 rfl (.inr (.inl rfl)) rfl ?_
  refine wa_cons ?_
  refine w_int ?_
  refine wa_nil ?_
  refine ⟨_, _, _, _, _, rfl, by walk_at "pen", by omega, by omega, fun r4 μ4 hr4 e4 => ?_⟩
  try simp only [List.set_cons_succ, List.set_set, List.set_cons_zero] at e4
  subst e4
  first | refine o_addN (a := 1) ?_ | walk_at "Add"
  obtain ⟨asks, hasks⟩ : ∃ asks, asks = 1 + r4 := ⟨_, rfl⟩
  rw [← hasks]
  -- _law_many = 1 + _law_take(_law_pen, _law_most)
  refine w_cons (w_set 6 sc__law_machine.nd rfl (.inr rfl) (.inl rfl) ?_)
  refine w_bin ?_
  refine w_int ?_
  refine w_callG G__law_take hr ?_
  refine wa_cons ?_
  refine w_name 0 rfl (.inr (.inl rfl)) rfl ?_
  refine wa_cons ?_
  refine w_name 1 rfl (.inl rfl) rfl ?_
  refine wa_nil ?_
  refine ⟨_, _, _, _, _, rfl, by walk_at "pen", by omega, by omega, fun r5 μ5 hr5 e5 => ?_⟩
  try simp only [List.set_cons_succ, List.set_set, List.set_cons_zero] at e5
  subst e5
  first | refine o_addN (a := 1) ?_ | walk_at "Add"
  obtain ⟨many, hmany⟩ : ∃ many, many = 1 + r5 := ⟨_, rfl⟩
  rw [← hmany]
  -- _law_rooms = []
  refine w_cons (w_set 7 sc__law_machine.nd rfl (.inl rfl) (.inl rfl) ?_)
  refine w_lstM ?_
  refine wa_nil ?_
  refine ⟨by simp, fun pr => ?_⟩
  -- for _law_k in range(_law_many):
  refine w_cons (w_forV [8] ?_ PassesOwn.never rfl)
  refine wi_rngN T.b_range ?_
  refine w_name 6 rfl (.inr (.inl rfl)) rfl ?_
  refine ⟨_, by rfl, by omega, ?_⟩
  refine ⟨_, fun i vs μ' => ∃ (R : List (List Cell)) (c : Nat) (w8 : Option D), (R.length = i) ∧ (∀ r ∈ R, r.length = asks ∧ ∀ c ∈ r, cOk many 8 c) ∧ (c ≤ n + 5 + 30 * i) ∧ vs = [w8] ∧ (pr, .lst (R.map roomD)) :: μ.set ip (q, penO ns c) = μ', (by first | exact nats_len | exact nats2_len | exact enumD_len.trans (List.length_map _) | exact enumD_len | exact List.length_map _ | exact rfl | simp), ⟨[], n + 1 + 1 + 1 + 1 + 1, _, rfl, (fun r hr => (nomatch hr)), (by omega), rfl, rfl⟩, ?_, ?_⟩
  · rintro k x vs μ' hx ⟨R, c, w8, hRl, hR, hc, rfl, rfl⟩
    refine wG_rho (ρ' := [_, _, _, _, _, _, _, _, _, _]) rfl ?_
    obtain ⟨hk, rfl⟩ := nats_get hx
    refine wg_name 8 sc__law_machine.nd rfl (.inl rfl) (.inl rfl) ?_
    -- if _law_k > 0 and _law_copies > 0 and (_law_take(_law_pen, 3) > 0):
    refine w_cons (w_if ?_)
    refine wt_mono (Ψ := (fun b μ1 => ∃ c1, c1 ≤ c + 1 ∧ (b = true → 0 < k) ∧ μ1 = (pr, .lst (R.map roomD)) :: μ.set ip (q, penO ns c1))) ?_ ?_
    · refine wt_w ?_
      refine ww_and ?_
      refine wt_cmp ?_
      refine w_name 8 rfl (.inl rfl) rfl ?_
      refine w_int ?_
      walk_at "Gt"
      refine ⟨_, rfl, ?_⟩
      refine ⟨fun hb0 => ?_, fun hb0 => ?_⟩
      rotate_left
      · exact ⟨c, by omega, fun z => (nomatch z), rfl⟩
      refine ww_and ?_
      refine wt_cmp ?_
      refine w_name 2 rfl (.inl rfl) rfl ?_
      refine w_int ?_
      walk_at "Gt"
      refine ⟨_, rfl, ?_⟩
      refine ⟨fun hb1 => ?_, fun hb1 => ?_⟩
      rotate_left
      · exact ⟨c, by omega, fun z => (nomatch z), rfl⟩
      refine ww_and1 ?_
      refine wt_cmp ?_
      refine w_callG G__law_take hr ?_
      refine wa_cons ?_
      refine w_name 0 rfl (.inr (.inl rfl)) rfl ?_
      refine wa_cons ?_
      refine w_int ?_
      refine wa_nil ?_
      refine ⟨_, _, _, _, _, rfl, by walk_at "pen", by omega, by omega, fun r6 μ6 hr6 e6 => ?_⟩
      try simp only [List.set_cons_succ, List.set_set, List.set_cons_zero] at e6
      subst e6
      refine w_int ?_
      walk_at "Gt"
      refine ⟨_, rfl, ?_⟩
      exact ⟨c + 1, by omega, fun _ => by have := of_decide_eq_true hb0; omega, rfl⟩
    rintro b μ1 ⟨c1, hc1, hb1, rfl⟩
    refine ⟨fun hb => ?_, fun hb => ?_⟩
    · -- _law_rooms.append(_law_near(_law_pen, _law_rooms[_law_take(_law_pen, _law_k)], _law_many, _law_kinds))
      refine w_cons (w_expr ?_)
      refine w_append ?_
      refine w_name 7 rfl (.inl rfl) rfl ?_
      first | refine ⟨.inl ⟨rfl, 0, _, rfl⟩, ?_⟩ | refine ⟨.inl ⟨rfl, 1, _, rfl⟩, ?_⟩ | refine ⟨.inl ⟨rfl, 2, _, rfl⟩, ?_⟩ | refine ⟨.inl ⟨rfl, 3, _, rfl⟩, ?_⟩ | refine ⟨rfl, ?_⟩
      refine wa_cons ?_
      refine w_callG G__law_near hr ?_
      refine wa_cons ?_
      refine w_name 0 rfl (.inr (.inl rfl)) rfl ?_
      refine wa_cons ?_
      refine w_ix ?_
      refine w_name 7 rfl (.inl rfl) rfl ?_
      have hk0 := hb1 hb
      refine w_callG G__law_take hr ?_
      refine wa_cons ?_
      refine w_name 0 rfl (.inr (.inl rfl)) rfl ?_
      refine wa_cons ?_
      refine w_name 8 rfl (.inl rfl) rfl ?_
      refine wa_nil ?_
      refine ⟨_, _, _, _, _, rfl, by walk_at "pen", by omega, by omega, fun r7 μ7 hr7 e7 => ?_⟩
      try simp only [List.set_cons_succ, List.set_set, List.set_cons_zero] at e7
      subst e7
      obtain ⟨row, hrow, hrowm⟩ := get_of_lt (show r7 < R.length by omega)
      obtain ⟨hrl, hro⟩ := hR _ hrowm
      refine ix_ptrD 0 rfl r7 rfl (map_at hrow) ?_
      refine wa_cons ?_
      refine w_name 6 rfl (.inr (.inl rfl)) rfl ?_
      refine wa_cons ?_
      refine w_name 4 rfl (.inr (.inl rfl)) rfl ?_
      refine wa_nil ?_
      refine ⟨ns, c1 + 1, q, ip + 1, many, kinds, row, rfl, by walk_at "pen", by omega, by omega, by omega, by omega, hro, fun r' n' μ' hl' ho' hn' e' => ?_⟩
      simp only [List.set_cons_succ, List.set_set] at e'
      subst e'
      refine wa_nil ?_
      refine m_append 0 rfl (by rw [List.length_map]; omega) ?_
      refine w_nil ?_
      refine w_nil ?_
      exact ⟨[_], rfl, ⟨R ++ [r'], n', _, (by rw [List.length_append, hRl]; rfl), (by intro r hr; rcases List.mem_append.mp hr with hr | hr; exact hR r hr; rw [List.mem_singleton] at hr; subst hr; exact ⟨by omega, ho'⟩), (by omega), rfl, (by rw [List.map_append]; rfl)⟩⟩
    · -- _law_rooms.append(tuple([_law_cell(_law_pen, _law_many, _law_share, _law_kinds) for _law_ask in range(_law_asks)]))
      refine w_cons (w_expr ?_)
      refine w_append ?_
      refine w_name 7 rfl (.inl rfl) rfl ?_
      first | refine ⟨.inl ⟨rfl, 0, _, rfl⟩, ?_⟩ | refine ⟨.inl ⟨rfl, 1, _, rfl⟩, ?_⟩ | refine ⟨.inl ⟨rfl, 2, _, rfl⟩, ?_⟩ | refine ⟨.inl ⟨rfl, 3, _, rfl⟩, ?_⟩ | refine ⟨rfl, ?_⟩
      refine wa_cons ?_
      refine w_callTy (T := "tuple") T.b_tuple ?_
      refine wa_cons ?_
      -- comp [_law_cell(_law_pen, _law_many, _law_share, _law_kinds) for _law_ask in range(_law_asks)]
      refine w_fz0 (w_lcM (own := [("_law_ask", 9)]) (.one 9) (by decide) rfl sc__law_machine.nd (blkOk_by (N := N__law_machine) (sc := defScope s__law_machine) (by decide +kernel)) (fun _ _ _ _ _ => pg_name (i := 9) sc__law_machine.nd rfl (by first | exact .inl rfl | exact .inr rfl)) ?_)
      refine lcW_of ?_
      refine wi_rngN T.b_range ?_
      refine w_name 5 rfl (.inl rfl) rfl ?_
      refine ⟨_, by rfl, by omega, ?_⟩
      refine ⟨by rw [nats_len]; omega, fun i acc μ2 => ∃ (C : List Cell) (c2 : Nat), C.length = i ∧ (∀ x ∈ C, cOk many 8 x) ∧ c2 ≤ c1 + 4 * i ∧ acc = C.map cellD ∧ μ2 = (pr, .lst (R.map roomD)) :: μ.set ip (q, penO ns c2), ⟨[], c1, rfl, (fun x hx => (nomatch hx)), (by omega), rfl, rfl⟩, ?_, ?_⟩
      · rintro p2 i x acc μ2 hx ⟨C, c2, hCl, hC, hc2, rfl, rfl⟩
        obtain ⟨hi, rfl⟩ := nats_get hx
        refine ⟨_, rfl, fun _ _ _ _ _ => ?_⟩
        refine ⟨fun _ _ _ _ _ _ => ?_, fun hb => (nomatch hb)⟩
        refine w_callG G__law_cell hr ?_
        refine wa_cons ?_
        refine w_name 0 rfl (.inr (.inl rfl)) rfl ?_
        refine wa_cons ?_
        refine w_name 6 rfl (.inr (.inl rfl)) rfl ?_
        refine wa_cons ?_
        refine w_name 3 rfl (.inr (.inl rfl)) rfl ?_
        refine wa_cons ?_
        refine w_name 4 rfl (.inr (.inl rfl)) rfl ?_
        refine wa_nil ?_
        refine ⟨ns, c2, q, ip + 2, many, kinds, share, rfl, by walk_at "pen", by omega, by omega, by omega, fun ce c3 μ3 hce hc3 e => ?_⟩
        simp only [List.set_cons_succ, List.set_set] at e
        subst e
        refine ⟨_, rfl, ?_⟩
        exact ⟨C ++ [ce], c3, by rw [List.length_append, hCl]; rfl, (by intro x hx; rcases List.mem_append.mp hx with hx | hx; exact hC x hx; rw [List.mem_singleton] at hx; subst hx; exact hce), by omega, by rw [List.map_append]; rfl, rfl⟩
      rintro p2 acc μ2 ⟨C, c2, hCl, hC, hc2, rfl, rfl⟩
      rw [nats_len] at hCl hc2
      refine ⟨_, _, _, rfl, rfl, ?_⟩
      refine wa_nil ?_
      walk_at "c_tuple"
      refine wa_nil ?_
      refine m_append 0 rfl (by rw [List.length_map]; omega) ?_
      refine w_nil ?_
      refine w_nil ?_
      exact ⟨[_], rfl, ⟨R ++ [C], c2, _, (by rw [List.length_append, hRl]; rfl), (by intro r hr; rcases List.mem_append.mp hr with hr | hr; exact hR r hr; rw [List.mem_singleton] at hr; subst hr; exact ⟨hCl, hC⟩), (by omega), rfl, (by rw [List.map_append]; rfl)⟩⟩
  rintro vs μ' ⟨R, c, w8, hRl, hR, hc, rfl, rfl⟩
  refine wSs_rho (ρ' := [_, _, _, _, _, _, _, _, _, _]) rfl ?_
  -- return (_law_asks, tuple(_law_rooms))
  refine w_cons (w_ret (w_dr ?_))
  refine w_tup ?_
  refine wa_cons ?_
  refine w_name 5 rfl (.inl rfl) rfl ?_
  refine wa_cons ?_
  refine w_callTy (T := "tuple") T.b_tuple ?_
  refine wa_cons ?_
  refine w_name 7 rfl (.inl rfl) rfl ?_
  refine wa_nil ?_
  walk_at "c_tuple"
  refine wa_nil ?_
  refine ⟨by simp, ?_⟩
  exact ⟨_, List.sublist_cons_self _ _, kk ⟨asks, R⟩ c _ ⟨by show 0 < asks; omega, by show asks ≤ 4; omega, by show 0 < R.length; omega, by show R.length ≤ most; omega, fun r hr => ⟨(hR r hr).1, fun c hc => by show cOk R.length 8 c; rw [hRl]; exact (hR r hr).2 c hc⟩⟩ (by omega) rfl⟩
end
end L09

namespace L09
open PySem PySem.Spec L2 Oc
open Evl (Ex)
local macro_rules | `(tactic| walk_at "s") => `(tactic| first | assumption | omega | decide | (simp only [] at *; omega))
local macro_rules | `(tactic| walk_at "Add") => `(tactic| first | refine o_addN ?_ | refine o_add ?_ | refine o_addS (by walk_at "s") ?_ | refine o_addT (by walk_at "s") ?_ | refine o_addL (by walk_at "s") ?_)
local macro_rules | `(tactic| walk_at "Sub") => `(tactic| refine o_sub ?_)
local macro_rules | `(tactic| walk_at "Mult") => `(tactic| refine o_mul (by walk_at "s") ?_)
local macro_rules | `(tactic| walk_at "Mod") => `(tactic| first | refine o_modN (by walk_at "s") ?_ | refine o_mod (by walk_at "s") ?_)
local macro_rules | `(tactic| walk_at "FloorDiv") => `(tactic| first | refine o_divN (by walk_at "s") ?_ | refine o_div (by walk_at "s") ?_)
local macro_rules | `(tactic| walk_at "Pow") => `(tactic| refine o_pow (by walk_at "s") ?_)
local macro_rules | `(tactic| walk_at "LShift") => `(tactic| refine o_shl (by walk_at "s") ?_)
local macro_rules | `(tactic| walk_at "RShift") => `(tactic| refine o_shr (by walk_at "s") ?_)
local macro_rules | `(tactic| walk_at "BitAnd") => `(tactic| refine o_band ?_)
local macro_rules | `(tactic| walk_at "BitXor") => `(tactic| refine o_bxor ?_)
local macro_rules | `(tactic| walk_at "BitOr") => `(tactic| refine o_bor ?_)
local macro_rules | `(tactic| walk_at "Lt") => `(tactic| refine o_lt ?_)
local macro_rules | `(tactic| walk_at "LtE") => `(tactic| refine o_le ?_)
local macro_rules | `(tactic| walk_at "Gt") => `(tactic| refine o_gt ?_)
local macro_rules | `(tactic| walk_at "GtE") => `(tactic| refine o_ge ?_)
local macro_rules | `(tactic| walk_at "Eq") => `(tactic| refine o_eq (by rfl) ?_)
local macro_rules | `(tactic| walk_at "NotEq") => `(tactic| refine o_ne (by rfl) ?_)
local macro_rules | `(tactic| walk_at "Is") => `(tactic| refine o_isN ?_)
local macro_rules | `(tactic| walk_at "IsNot") => `(tactic| refine o_notN ?_)
local macro_rules | `(tactic| walk_at "In") => `(tactic| refine o_in (by first | exact .inl rfl | exact .inr (.inl rfl) | exact .inr (.inr rfl)) (by rfl) (by rfl) ?_)
local macro_rules | `(tactic| walk_at "NotIn") => `(tactic| refine o_nin (by first | exact .inl rfl | exact .inr (.inl rfl) | exact .inr (.inr rfl)) (by rfl) (by rfl) ?_)
local macro_rules | `(tactic| walk_at "c_abs") => `(tactic| refine c_abs ?_)
local macro_rules | `(tactic| walk_at "c_len") => `(tactic| first | refine c_lenL ?_ | refine c_lenC ?_ | refine c_lenT ?_ | refine c_lenS (by walk_at "s") ?_ | refine c_lenP 0 (by first | assumption | rfl) ?_)
local macro_rules | `(tactic| walk_at "c_str") => `(tactic| refine c_str (by walk_at "s") ?_)
local macro_rules | `(tactic| walk_at "c_isinstance") => `(tactic| refine c_isi rfl (by rfl) ?_)
local macro_rules | `(tactic| walk_at "sl") => `(tactic| first | refine sd_tup ?_ | refine sd_lst ?_)
local macro_rules | `(tactic| walk_at "c_tuple") => `(tactic| first | refine c_tupL ?_ | refine c_tupP 0 (by first | assumption | rfl) ?_ | refine c_tupT ?_)
local macro_rules | `(tactic| walk_at "c_int") => `(tactic| first | refine c_intB ?_)
local macro_rules | `(tactic| walk_at "USub") => `(tactic| refine u_neg ?_)
local macro_rules | `(tactic| walk_at "pen") => `(tactic| first | assumption | exact get_set (by assumption) | exact get_set (get_set (by assumption)) | exact get_here | (apply get_cons; walk_at "pen") | (apply get_app; walk_at "pen"))
local macro_rules | `(tactic| walk_at "mu") => `(tactic| simp only [List.set_cons_succ, List.set_set, List.set_cons_zero])
/-! ### small laws -/
theorem isN_none {x : Option Nat} (h : (!D.isN (optD x)) = false) : x = none := by
  cases x with
  | none => rfl
  | some x => cases h
theorem notN_some {x : Option Nat} (h : (!D.isN (optD x)) = true) : ∃ n, x = some n := by
  cases x with
  | none => cases h
  | some x => exact ⟨x, rfl⟩
theorem run_snoc' {m : Mach} {h : Option Nat} {u : List Nat} {A : List (Option Nat)} {r a : Nat} (e : runM m h u = (A, some r)) : runM m h (u ++ [a]) = (A ++ [(m.cell r a).2], (m.cell r a).1) := by rw [runM_snoc, e]; rfl
theorem isn_none (x : Option Nat) : D.isN (optD x) = x.isNone := by cases x <;> rfl
theorem isn_some (x : Option Nat) : (!D.isN (optD x)) = x.isSome := by cases x <;> rfl
theorem ly_natP (p : Nat × Nat) : Ly (natP p) 1 := Ly.tup (.cons (Ly.int _) (.cons (Ly.int _) .nil))
/-! ### rows gone: the walk -/
def S_run : FS := fun ds μ Φ => ∃ (m : Mach) (most : Nat) (h : Option Nat) (row : List Nat), ds = [machD m, optD h, rowD row] ∧ m.Ok most ∧ RIn m h ∧ AIn m row ∧ row.length ≤ 100000 ∧
  ∀ p, Φ (.tup [.ptr p, optD (runM m h row).2]) ((p, .lst ((runM m h row).1.map optD)) :: μ)
def S_lets : FS := fun ds μ Φ => ∃ (m : Mach) (most : Nat) (h : Option Nat) (row : List Nat), ds = [machD m, optD h, rowD row] ∧ m.Ok most ∧ RIn m h ∧ AIn m row ∧ row.length ≤ 100000 ∧
  Φ (.bl (decide ((runM m h row).1.length = row.length))) μ
section
variable {P : Program} {w : World} {K : PySem.W.Frag} {mg : Str → Option Value} {base : Heap}
theorem ok_run (B : Src K mg "run" s_run ["machine", "room", "row"]) (T : Tx mg)  : KnG P w K mg base 1 "run" ["machine", "room", "row"] S_run := by
  refine kn_ofG B sc_run (fun ds μ Φ h => by obtain ⟨_, _, _, _, rfl, _⟩ := h; rfl) fun f cdv A outer s H E grd hr ds μ Φ h => ?_
  obtain ⟨m, most, h0, row, rfl, hm, hh, ha, hl, k⟩ := h
  refine wSs_rho (ρ' := [_, _, _, _, _, _, _, _]) rfl ?_
  -- answers = []
  refine w_cons (w_set 3 sc_run.nd rfl (.inl rfl) (.inl rfl) ?_)
  refine w_lstM ?_
  refine wa_nil ?_
  refine ⟨by simp, fun p => ?_⟩
  -- here = room
  refine w_cons (w_set 4 sc_run.nd rfl (.inl rfl) (.inl rfl) ?_)
  refine w_name 1 rfl (.inl rfl) rfl ?_
  -- for ask in row:
  refine w_cons (w_forV [4, 5, 6, 7] ?_ PassesOwn.never rfl)
  refine wi_tup ?_
  refine w_name 2 rfl (.inl rfl) rfl ?_
  refine ⟨_, rfl, ?_⟩
  refine ⟨_, fun i vs μ' => ∃ (acc : List (Option Nat)) (x : Option Nat) (w5 w6 w7 : Option D), (runM m h0 (row.take i) = (acc, x)) ∧ vs = [some (optD x), w5, w6, w7] ∧ (p, .lst (acc.map optD)) :: μ = μ', (by first | exact nats_len | exact nats2_len | exact enumD_len.trans (List.length_map _) | exact enumD_len | exact List.length_map _ | exact rfl | simp), ⟨[], h0, _, _, _, rfl, rfl, rfl⟩, ?_, ?_⟩
  · rintro iask x vs μ' hx ⟨acc, x, w5, w6, w7, hgo, rfl, rfl⟩
    refine wG_rho (ρ' := [_, _, _, _, _, _, _, _]) rfl ?_
    obtain ⟨ask, hask, rfl⟩ := map_get' hx
    have hin : RIn m x := by have := runM_in hm (row.take iask) ([], h0) hh (ha.take iask); rw [show (row.take iask).foldl (stepM m) ([], h0) = (acc, x) from hgo] at this; exact this
    have hlen : acc.length ≤ row.length := by have := runM_le m h0 (row.take iask); rw [hgo, List.length_take] at this; have h2 : acc.length ≤ min iask row.length := this; omega
    have hnx := runM_snoc m h0 (row.take iask) ask
    rw [← take_next hask, hgo] at hnx
    have haa := ha ask (List.mem_of_getElem? hask)
    refine wg_name 5 sc_run.nd rfl (.inl rfl) (.inl rfl) ?_
    -- if here is not None:
    refine w_cons (w_if ?_)
    refine wt_cmp ?_
    refine w_name 4 rfl (.inl rfl) rfl ?_
    refine w_non ?_
    walk_at "IsNot"
    refine ⟨_, rfl, ?_⟩
    refine ⟨fun hb => ?_, fun hb => ?_⟩
    · -- goes, says = machine[1][here][ask]
      refine w_cons (w_asg ?_)
      refine w_ix ?_
      refine w_ix ?_
      refine w_ix ?_
      refine w_name 0 rfl (.inl rfl) rfl ?_
      refine w_int ?_
      first | refine ix_tupD 1 rfl rfl ?_ | refine ix_lstD 1 rfl rfl ?_ | refine ix_tupD 1 rfl (by assumption) ?_ | refine ix_lstD 1 rfl (by assumption) ?_ | refine ix_ptrD 0 rfl 1 rfl rfl ?_ | refine ix_ptrD 1 rfl 1 rfl rfl ?_ | refine ix_ptrD 2 rfl 1 rfl rfl ?_
      refine w_name 4 rfl (.inl rfl) rfl ?_
      obtain ⟨r, rfl⟩ := notN_some hb
      obtain ⟨g1, g2, g3⟩ := mach_at hm (hin r rfl) haa
      refine ix_tupD r rfl g1 ?_
      refine w_name 5 rfl (.inl rfl) rfl ?_
      refine ix_tupD ask rfl g2 ?_
      first | refine wg_tup rfl rfl ?_ | refine wg_lst rfl rfl ?_
      refine wgs_cons ?_
      refine wg_name 6 sc_run.nd rfl (.inl rfl) (.inl rfl) ?_
      refine wgs_cons ?_
      refine wg_name 7 sc_run.nd rfl (.inl rfl) (.inl rfl) ?_
      refine wgs_nil ?_
      -- answers.append(says)
      refine w_cons (w_expr ?_)
      refine w_append ?_
      refine w_name 3 rfl (.inl rfl) rfl ?_
      first | refine ⟨.inl ⟨rfl, 0, _, rfl⟩, ?_⟩ | refine ⟨.inl ⟨rfl, 1, _, rfl⟩, ?_⟩ | refine ⟨.inl ⟨rfl, 2, _, rfl⟩, ?_⟩ | refine ⟨.inl ⟨rfl, 3, _, rfl⟩, ?_⟩ | refine ⟨rfl, ?_⟩
      refine wa_cons ?_
      refine w_name 7 rfl (.inl rfl) rfl ?_
      refine wa_nil ?_
      refine m_append 0 rfl (by rw [List.length_map]; omega) ?_
      -- here = goes
      refine w_cons (w_set 4 sc_run.nd rfl (.inl rfl) (.inl rfl) ?_)
      refine w_name 6 rfl (.inl rfl) rfl ?_
      refine w_nil ?_
      refine w_nil ?_
      exact ⟨[_, _, _, _], rfl, ⟨acc ++ [(m.cell r ask).2], (m.cell r ask).1, _, _, _, hnx, rfl, (by rw [List.map_append]; rfl)⟩⟩
    · refine w_nil ?_
      refine w_nil ?_
      have hx0 := isN_none hb
      subst hx0
      exact ⟨[_, _, _, _], rfl, ⟨acc, none, _, _, _, hnx, rfl, rfl⟩⟩
  rintro vs μ' ⟨acc, x, w5, w6, w7, hgo, rfl, rfl⟩
  refine wSs_rho (ρ' := [_, _, _, _, _, _, _, _]) rfl ?_
  rw [List.take_of_length_le (Nat.le_refl _)] at hgo
  -- return (answers, here)
  refine w_cons (w_ret ?_)
  refine w_tup ?_
  refine wa_cons ?_
  refine w_name 3 rfl (.inl rfl) rfl ?_
  refine wa_cons ?_
  refine w_name 4 rfl (.inl rfl) rfl ?_
  refine wa_nil ?_
  refine ⟨by simp, ?_⟩
  have e1 : acc = (runM m h0 row).1 := by rw [hgo]
  have e2 : x = (runM m h0 row).2 := by rw [hgo]
  subst e1
  subst e2
  exact k _
theorem ok_lets (B : Src K mg "lets" s_lets ["machine", "room", "row"]) (T : Tx mg) (G_run : KnG P w K mg base 1 "run" ["machine", "room", "row"] S_run) : KnG P w K mg base 2 "lets" ["machine", "room", "row"] S_lets := by
  refine kn_ofG B sc_lets (fun ds μ Φ h => by obtain ⟨_, _, _, _, rfl, _⟩ := h; rfl) fun f cdv A outer s H E grd hr ds μ Φ h => ?_
  obtain ⟨m, most, h0, row, rfl, hm, hh, ha, hl, k⟩ := h
  refine wSs_rho (ρ' := [_, _, _]) rfl ?_
  -- return len(run(machine, room, row)[0]) == len(row)
  refine w_cons (w_ret (w_dr ?_))
  refine w_cmp ?_
  refine w_callB (id := "len") T.b_len ?_
  refine wa_cons ?_
  refine w_ix ?_
  refine w_callG G_run hr ?_
  refine wa_cons ?_
  refine w_name 0 rfl (.inl rfl) rfl ?_
  refine wa_cons ?_
  refine w_name 1 rfl (.inl rfl) rfl ?_
  refine wa_cons ?_
  refine w_name 2 rfl (.inl rfl) rfl ?_
  refine wa_nil ?_
  refine ⟨m, most, h0, row, rfl, hm, hh, ha, hl, fun p => ?_⟩
  refine w_int ?_
  first | refine ix_tupD 0 rfl rfl ?_ | refine ix_lstD 0 rfl rfl ?_ | refine ix_tupD 0 rfl (by assumption) ?_ | refine ix_lstD 0 rfl (by assumption) ?_ | refine ix_ptrD 0 rfl 0 rfl rfl ?_ | refine ix_ptrD 1 rfl 0 rfl rfl ?_ | refine ix_ptrD 2 rfl 0 rfl rfl ?_
  refine wa_nil ?_
  refine c_lenP 0 rfl ?_
  rw [List.length_map]
  refine w_callB (id := "len") T.b_len ?_
  refine wa_cons ?_
  refine w_name 2 rfl (.inl rfl) rfl ?_
  refine wa_nil ?_
  refine c_lenT ?_
  rw [List.length_map]
  walk_at "Eq"
  refine ⟨_, List.sublist_cons_self _ _, ?_⟩
  have e : D.eqf (.int ((runM m h0 row).1.length : Nat)) (.int (row.length : Nat)) = decide ((runM m h0 row).1.length = row.length) := by
    show (((runM m h0 row).1.length : Int) == (row.length : Int)) = _
    rw [Bool.eq_iff_iff, beq_iff_eq, decide_eq_true_iff]
    omega
  rw [e]
  exact k
end
end L09

namespace L09
open PySem PySem.Spec L2 Oc
open Evl (Ex)
local macro_rules | `(tactic| walk_at "s") => `(tactic| first | assumption | omega | decide | (simp only [] at *; omega))
local macro_rules | `(tactic| walk_at "Add") => `(tactic| first | refine o_add ?_ | refine o_addS (by walk_at "s") ?_ | refine o_addT (by walk_at "s") ?_ | refine o_addL (by walk_at "s") ?_)
local macro_rules | `(tactic| walk_at "Sub") => `(tactic| refine o_sub ?_)
local macro_rules | `(tactic| walk_at "Mult") => `(tactic| refine o_mul (by walk_at "s") ?_)
local macro_rules | `(tactic| walk_at "Mod") => `(tactic| first | refine o_mod (by walk_at "s") ?_)
local macro_rules | `(tactic| walk_at "FloorDiv") => `(tactic| first | refine o_div (by walk_at "s") ?_)
local macro_rules | `(tactic| walk_at "Pow") => `(tactic| refine o_pow (by walk_at "s") ?_)
local macro_rules | `(tactic| walk_at "LShift") => `(tactic| refine o_shl (by walk_at "s") ?_)
local macro_rules | `(tactic| walk_at "RShift") => `(tactic| refine o_shr (by walk_at "s") ?_)
local macro_rules | `(tactic| walk_at "BitAnd") => `(tactic| refine o_band ?_)
local macro_rules | `(tactic| walk_at "BitXor") => `(tactic| refine o_bxor ?_)
local macro_rules | `(tactic| walk_at "BitOr") => `(tactic| refine o_bor ?_)
local macro_rules | `(tactic| walk_at "Lt") => `(tactic| refine o_lt ?_)
local macro_rules | `(tactic| walk_at "LtE") => `(tactic| refine o_le ?_)
local macro_rules | `(tactic| walk_at "Gt") => `(tactic| refine o_gt ?_)
local macro_rules | `(tactic| walk_at "GtE") => `(tactic| refine o_ge ?_)
local macro_rules | `(tactic| walk_at "Eq") => `(tactic| refine o_eq (by rfl) ?_)
local macro_rules | `(tactic| walk_at "NotEq") => `(tactic| refine o_ne (by rfl) ?_)
local macro_rules | `(tactic| walk_at "Is") => `(tactic| refine o_isN ?_)
local macro_rules | `(tactic| walk_at "IsNot") => `(tactic| refine o_notN ?_)
local macro_rules | `(tactic| walk_at "In") => `(tactic| refine o_in (by first | exact .inl rfl | exact .inr (.inl rfl) | exact .inr (.inr rfl)) (by rfl) (by rfl) ?_)
local macro_rules | `(tactic| walk_at "NotIn") => `(tactic| refine o_nin (by first | exact .inl rfl | exact .inr (.inl rfl) | exact .inr (.inr rfl)) (by rfl) (by rfl) ?_)
local macro_rules | `(tactic| walk_at "c_abs") => `(tactic| refine c_abs ?_)
local macro_rules | `(tactic| walk_at "c_len") => `(tactic| first | refine c_lenL ?_ | refine c_lenC ?_ | refine c_lenT ?_ | refine c_lenS (by walk_at "s") ?_ | refine c_lenP 0 (by first | assumption | rfl) ?_)
local macro_rules | `(tactic| walk_at "c_str") => `(tactic| refine c_str (by walk_at "s") ?_)
local macro_rules | `(tactic| walk_at "c_isinstance") => `(tactic| refine c_isi rfl (by rfl) ?_)
local macro_rules | `(tactic| walk_at "sl") => `(tactic| first | refine sd_tup ?_ | refine sd_lst ?_)
local macro_rules | `(tactic| walk_at "c_tuple") => `(tactic| first | refine c_tupL ?_ | refine c_tupP 0 (by first | assumption | rfl) ?_ | refine c_tupT ?_)
local macro_rules | `(tactic| walk_at "c_int") => `(tactic| first | refine c_intB ?_)
local macro_rules | `(tactic| walk_at "USub") => `(tactic| refine u_neg ?_)
local macro_rules | `(tactic| walk_at "pen") => `(tactic| first | assumption | exact get_set (by assumption) | exact get_set (get_set (by assumption)) | exact get_here | (apply get_cons; walk_at "pen") | (apply get_app; walk_at "pen"))
local macro_rules | `(tactic| walk_at "mu") => `(tactic| simp only [List.set_cons_succ, List.set_set, List.set_cons_zero])
/-! ### rows that part: plain facts -/
abbrev Pair := Nat × Nat
abbrev pairD (p : Pair) : D := .tup [.int p.1, .int p.2]
def PIn (m : Mach) (p : Pair) : Prop := p.1 < m.rooms.length ∧ p.2 < m.rooms.length
def unlC (x y : Option Nat) : Bool := match x, y with
  | some x, some y => !(x == y)
  | _, _ => false
def bothC (x y : Option Nat) : Option Pair := match x, y with
  | some x, some y => some (x, y)
  | _, _ => none
def unlB (m : Mach) (p : Pair) (k : Nat) : Bool := unlC (m.cell p.1 k).2 (m.cell p.2 k).2
def bothF (m : Mach) (p : Pair) (k : Nat) : Option Pair := bothC (m.cell p.1 k).1 (m.cell p.2 k).1
theorem both_in {m : Mach} {most : Nat} (hm : m.Ok most) {p q : Pair} {k : Nat} (hp : PIn m p) (hk : k < m.asks) (h : bothF m p k = some q) : PIn m q := by
  have h1 := (mach_at hm hp.1 hk).2.2.1
  have h2 := (mach_at hm hp.2 hk).2.2.1
  unfold bothF bothC at h
  split at h
  · rename_i x y e1 e2
    cases h
    exact ⟨h1 _ e1, h2 _ e2⟩
  · cases h
def goF (m : Mach) : Pair → List Nat → Option Pair
  | p, [] => some p
  | p, k :: r => (bothF m p k).bind fun q => goF m q r
theorem go_snoc (m : Mach) : ∀ (u : List Nat) (p : Pair) (k : Nat), goF m p (u ++ [k]) = (goF m p u).bind fun q => bothF m q k
  | [], p, k => by
    show (bothF m p k).bind (fun q => some q) = bothF m p k
    cases bothF m p k <;> rfl
  | a :: u, p, k => by
    show (bothF m p a).bind (fun q => goF m q (u ++ [k])) = ((bothF m p a).bind fun q => goF m q u).bind _
    cases bothF m p a with
    | none => rfl
    | some q => exact go_snoc m u q k
theorem go_in {m : Mach} {most : Nat} (hm : m.Ok most) : ∀ {u : List Nat} {p q : Pair}, PIn m p → AIn m u → goF m p u = some q → PIn m q
  | [], p, q, hp, _, h => by cases h; exact hp
  | a :: u, p, q, hp, ha, h => by
    have h : (bothF m p a).bind (fun q => goF m q u) = some q := h
    cases e : bothF m p a with
    | none => rw [e] at h; cases h
    | some s =>
      rw [e] at h
      exact go_in hm (both_in hm hp (ha a List.mem_cons_self) e) (fun b hb => ha b (List.mem_cons_of_mem _ hb)) h
def Prt (m : Mach) (p : Pair) (row : List Nat) : Prop := ∃ u k s, row = u ++ [k] ∧ AIn m row ∧ goF m p u = some s ∧ unlB m s k = true
theorem prt_ain {m : Mach} {p : Pair} {row : List Nat} (h : Prt m p row) : AIn m row := by obtain ⟨u, k, s, rfl, h1, _⟩ := h; exact h1
theorem prt_nil {m : Mach} {p : Pair} : ¬ Prt m p [] := by
  rintro ⟨u, k, s, h, _⟩
  have := congrArg List.length h
  rw [List.length_append] at this
  cases this
theorem prt_one {m : Mach} {p : Pair} {k : Nat} : Prt m p [k] ↔ k < m.asks ∧ unlB m p k = true := by
  constructor
  · rintro ⟨u, a, s, h, ha, hg, hu⟩
    have hu0 : u = [] := by
      have := congrArg List.length h
      rw [List.length_append] at this
      exact List.eq_nil_of_length_eq_zero (by simpa using this)
    subst hu0
    cases h
    cases hg
    exact ⟨ha k List.mem_cons_self, hu⟩
  · rintro ⟨h1, h2⟩
    exact ⟨[], k, p, rfl, fun a ha => by rw [List.mem_singleton] at ha; subst ha; exact h1, rfl, h2⟩
theorem prt_cons {m : Mach} {p : Pair} {k : Nat} {r : List Nat} (hr : r ≠ []) : Prt m p (k :: r) ↔ k < m.asks ∧ ∃ q, bothF m p k = some q ∧ Prt m q r := by
  constructor
  · rintro ⟨u, a, s, h, ha, hg, hu⟩
    cases u with
    | nil =>
      cases h
      exact absurd rfl hr
    | cons b u =>
      have e : k = b ∧ r = u ++ [a] := by simpa using h
      obtain ⟨rfl, rfl⟩ := e
      have hg : (bothF m p k).bind (fun q => goF m q u) = some s := hg
      cases e : bothF m p k with
      | none => rw [e] at hg; cases hg
      | some q =>
        rw [e] at hg
        exact ⟨ha k List.mem_cons_self, q, rfl, u, a, s, rfl, fun b hb => ha b (List.mem_cons_of_mem _ hb), hg, hu⟩
  · rintro ⟨h1, q, e, u, a, s, rfl, ha, hg, hu⟩
    refine ⟨k :: u, a, s, rfl, fun b hb => ?_, ?_, hu⟩
    · rcases List.mem_cons.mp hb with rfl | hb
      · exact h1
      · exact ha b hb
    · show (bothF m p k).bind (fun q => goF m q u) = some s
      rw [e]
      exact hg
/-! rows by length, then as tuples: a number each -/
def vl (B : Nat) (l : List Nat) : Nat := l.foldl (fun n k => n * B + (k + 1)) 0
def low (B : Nat) : Nat → Nat
  | 0 => 0
  | n + 1 => low B n + B ^ n
theorem low_mul (B : Nat) : ∀ n, low B n * B + 1 = low B (n + 1)
  | 0 => by simp [low]
  | n + 1 => by
    have ih := low_mul B n
    have e : low B (n + 1) = low B n + B ^ n := rfl
    have e2 : low B (n + 1 + 1) = low B (n + 1) + B ^ (n + 1) := rfl
    rw [e] at ih
    rw [e2, e, Nat.add_mul, Nat.pow_succ]
    omega
theorem low_mono (B : Nat) {a b : Nat} (h : a ≤ b) : low B a ≤ low B b := by
  induction h with
  | refl => exact Nat.le_refl _
  | step _ ih => exact Nat.le_trans ih (Nat.le_add_right _ _)
theorem vl_snoc (B : Nat) (l : List Nat) (a : Nat) : vl B (l ++ [a]) = vl B l * B + (a + 1) := by unfold vl; rw [List.foldl_append]; rfl
theorem vl_mono {B : Nat} {u v : List Nat} {a b : Nat} (ha : a < B) (h : vl B u < vl B v) : vl B (u ++ [a]) < vl B (v ++ [b]) := by
  rw [vl_snoc, vl_snoc]
  have : (vl B u + 1) * B ≤ vl B v * B := Nat.mul_le_mul_right B h
  rw [Nat.add_mul] at this
  omega
theorem vl_mono_le {B : Nat} {u v : List Nat} {a : Nat} (h : vl B u ≤ vl B v) : vl B (u ++ [a]) ≤ vl B (v ++ [a]) := by
  rw [vl_snoc, vl_snoc]
  have : vl B u * B ≤ vl B v * B := Nat.mul_le_mul_right B h
  omega
theorem snoc_ind {P : List Nat → Prop} (h0 : P []) (h1 : ∀ l a, P l → P (l ++ [a])) : ∀ l, P l := by
  intro l
  have : ∀ n (l : List Nat), l.length = n → P l := by
    intro n
    induction n with
    | zero => intro l hl; rw [List.eq_nil_of_length_eq_zero hl]; exact h0
    | succ n ih =>
      intro l hl
      have hne : l ≠ [] := fun e => by subst e; cases hl
      rw [← List.dropLast_concat_getLast hne]
      exact h1 _ _ (ih _ (by rw [List.length_dropLast, hl]; rfl))
  exact this _ l rfl
def Bel (B : Nat) (l : List Nat) : Prop := ∀ a ∈ l, a < B
theorem bel_snoc {B : Nat} {l : List Nat} {a : Nat} (h : Bel B (l ++ [a])) : Bel B l ∧ a < B :=
  ⟨fun b hb => h b (List.mem_append_left _ hb), h a (List.mem_append_right _ List.mem_cons_self)⟩
theorem vl_lo (B : Nat) : ∀ l : List Nat, low B l.length ≤ vl B l := snoc_ind (Nat.le_refl _) fun l a ih => by
  rw [List.length_append, vl_snoc]
  show low B (l.length + 1) ≤ _
  rw [← low_mul]
  have := Nat.mul_le_mul_right B ih
  omega
theorem vl_hi (B : Nat) : ∀ l : List Nat, Bel B l → vl B l + 1 ≤ low B (l.length + 1) := snoc_ind (fun _ => by show 0 + 1 ≤ low B 0 + B ^ 0; simp [low]) fun l a ih h => by
  obtain ⟨h1, h2⟩ := bel_snoc h
  rw [List.length_append, vl_snoc]
  show _ ≤ low B (l.length + 1 + 1)
  rw [← low_mul]
  have := Nat.mul_le_mul_right B (ih h1)
  rw [Nat.add_mul] at this
  omega
theorem vl_len {B : Nat} {u v : List Nat} (h : Bel B u) (hl : u.length < v.length) : vl B u < vl B v := by
  have h1 := vl_hi B u h
  have h2 := vl_lo B v
  have h3 := low_mono B (show u.length + 1 ≤ v.length from hl)
  omega
theorem vl_inj {B : Nat} : ∀ u v : List Nat, Bel B u → Bel B v → vl B u = vl B v → u = v := by
  have H : ∀ n (u v : List Nat), u.length = n → v.length = n → Bel B u → Bel B v → vl B u = vl B v → u = v := by
    intro n
    induction n with
    | zero => intro u v h1 h2 _ _ _; rw [List.eq_nil_of_length_eq_zero h1, List.eq_nil_of_length_eq_zero h2]
    | succ n ih =>
      intro u v h1 h2 b1 b2 e
      have n1 : u ≠ [] := fun e => by subst e; cases h1
      have n2 : v ≠ [] := fun e => by subst e; cases h2
      obtain ⟨u, a, rfl⟩ : ∃ u' a, u = u' ++ [a] := ⟨_, _, (List.dropLast_concat_getLast n1).symm⟩
      obtain ⟨v, b, rfl⟩ : ∃ u' a, v = u' ++ [a] := ⟨_, _, (List.dropLast_concat_getLast n2).symm⟩
      obtain ⟨c1, d1⟩ := bel_snoc b1
      obtain ⟨c2, d2⟩ := bel_snoc b2
      have l1 : u.length = n := by rw [List.length_append] at h1; exact Nat.succ.inj h1
      have l2 : v.length = n := by rw [List.length_append] at h2; exact Nat.succ.inj h2
      rcases Nat.lt_trichotomy (vl B u) (vl B v) with h | h | h
      · have := vl_mono (b := b) d1 h
        omega
      · rw [vl_snoc, vl_snoc, h] at e
        rw [ih _ _ l1 l2 c1 c2 h, show a = b by omega]
      · have := vl_mono (b := a) d2 h
        omega
  intro u v b1 b2 e
  have hl : u.length = v.length := by
    rcases Nat.lt_trichotomy u.length v.length with h | h | h
    · have := vl_len b1 h; omega
    · exact h
    · have := vl_len b2 h; omega
  exact H _ u v rfl hl.symm b1 b2 e
theorem vl_fold (B : Nat) : ∀ (r : List Nat) (n : Nat), r.foldl (fun n k => n * B + (k + 1)) n = n * B ^ r.length + vl B r := by
  refine snoc_ind (fun n => by simp [vl]) fun l a ih n => ?_
  rw [List.foldl_append, ih, vl_snoc, List.length_append]
  show (n * B ^ l.length + vl B l) * B + (a + 1) = n * B ^ (l.length + 1) + (vl B l * B + (a + 1))
  rw [Nat.add_mul, Nat.pow_succ, Nat.mul_assoc]
  omega
theorem vl_cons (B k : Nat) (r : List Nat) : vl B (k :: r) = (k + 1) * B ^ r.length + vl B r := by
  have e : vl B (k :: r) = r.foldl (fun n k => n * B + (k + 1)) (0 * B + (k + 1)) := rfl
  rw [e, vl_fold, Nat.zero_mul, Nat.zero_add]
theorem vl_head {B k k' : Nat} {r r' : List Nat} (h : Bel B r) (hl : r.length = r'.length) (hk : k < k') : vl B (k :: r) < vl B (k' :: r') := by
  rw [vl_cons, vl_cons, ← hl]
  have h1 := vl_hi B r h
  have h2 := vl_lo B r'
  rw [← hl] at h2
  have h3 : (k + 1 + 1) * B ^ r.length ≤ (k' + 1) * B ^ r.length := Nat.mul_le_mul_right _ (by omega)
  have h4 : low B (r.length + 1) = low B r.length + B ^ r.length := rfl
  rw [Nat.add_mul (k + 1)] at h3
  omega
/-- the shortest row that parts, of those as short the first -/
def Best (m : Mach) (p : Pair) (row : List Nat) : Prop := Prt m p row ∧ ∀ row', Prt m p row' → vl m.asks row ≤ vl m.asks row'
theorem best_uniq {m : Mach} {p : Pair} {a b : List Nat} (ha : Best m p a) (hb : Best m p b) : a = b :=
  vl_inj a b (prt_ain ha.1) (prt_ain hb.1) (Nat.le_antisymm (ha.2 b hb.1) (hb.2 a ha.1))
/-! the queue -/
abbrev Ent := Pair × List Nat
abbrev entD (e : Ent) : D := .tup [pairD e.1, rowD e.2]
structure QI (m : Mach) (p0 : Pair) (W : List Ent) (a j : Nat) : Prop where
  nd : (W.map (·.1)).Nodup
  ok : ∀ e ∈ W, PIn m e.1 ∧ AIn m e.2 ∧ goF m p0 e.2 = some e.1 ∧ e.2.length < W.length
  srt : ∀ (i l : Nat) (e f : Ent), i < l → W[i]? = some e → W[l]? = some f → vl m.asks e.2 < vl m.asks f.2
  hd : W[0]? = some (p0, [])
  done : ∀ (i : Nat) (e : Ent), W[i]? = some e → ∀ k, k < m.asks → (i < a ∨ (i = a ∧ k < j)) → unlB m e.1 k = false ∧ ∀ q, bothF m e.1 k = some q → ∃ f ∈ W, f.1 = q ∧ vl m.asks f.2 ≤ vl m.asks (e.2 ++ [k])
  top : ∀ c, W[a]? = some c → ∀ e ∈ W, vl m.asks e.2 < vl m.asks (c.2 ++ [j])
theorem QI.le {m : Mach} {p0 : Pair} {W : List Ent} {a j : Nat} (h : QI m p0 W a j) : W.length ≤ m.rooms.length * m.rooms.length := by
  have := pairs_le h.nd fun p hp => by
    obtain ⟨e, he, rfl⟩ := List.mem_map.mp hp
    exact (h.ok e he).1
  rwa [List.length_map] at this
theorem qi_start {m : Mach} {p0 : Pair} (hp : PIn m p0) : QI m p0 [(p0, [])] 0 0 where
  nd := by simp
  ok := fun e he => by rw [List.mem_singleton] at he; subst he; exact ⟨hp, fun a ha => (nomatch ha), rfl, Nat.zero_lt_one⟩
  srt := fun i l e f h _ h2 => by
    have := (List.getElem?_eq_some_iff.mp h2).1
    have : l < 1 := this
    omega
  hd := rfl
  done := fun i e _ k _ h => by omega
  top := fun c hc e he => by
    rw [List.mem_singleton] at he
    subst he
    rw [vl_snoc]
    show 0 < _
    omega
theorem qi_none {m : Mach} {p0 : Pair} {W : List Ent} {a j : Nat} {c : Ent} (h : QI m p0 W a j) (hc : W[a]? = some c) (hu : unlB m c.1 j = false) (hb : ∀ q, bothF m c.1 j = some q → q ∈ W.map (·.1)) : QI m p0 W a (j + 1) where
  nd := h.nd
  ok := h.ok
  srt := h.srt
  hd := h.hd
  done := fun i e he k hk hik => by
    by_cases e1 : i = a ∧ k = j
    · obtain ⟨rfl, rfl⟩ := e1
      rw [hc] at he
      cases he
      refine ⟨hu, fun q hq => ?_⟩
      obtain ⟨f, hf, rfl⟩ := List.mem_map.mp (hb q hq)
      exact ⟨f, hf, rfl, Nat.le_of_lt (h.top c hc f hf)⟩
    · exact h.done i e he k hk (by omega)
  top := fun c' hc' e he => by
    have := h.top c' hc' e he
    rw [vl_snoc] at this ⊢
    omega
theorem qi_new {m : Mach} {most : Nat} (hm : m.Ok most) {p0 : Pair} {W : List Ent} {a j : Nat} {c : Ent} {q : Pair} (h : QI m p0 W a j) (hj : j < m.asks) (hc : W[a]? = some c) (hu : unlB m c.1 j = false) (hb : bothF m c.1 j = some q) (hq : q ∉ W.map (·.1)) : QI m p0 (W ++ [(q, c.2 ++ [j])]) a (j + 1) := by
  have hal : a < W.length := (List.getElem?_eq_some_iff.mp hc).1
  obtain ⟨o1, o2, o3, o4⟩ := h.ok c (List.mem_of_getElem? hc)
  have get : ∀ i e, (W ++ [(q, c.2 ++ [j])])[i]? = some e → W[i]? = some e ∨ (i = W.length ∧ e = (q, c.2 ++ [j])) := fun i e he => by
    by_cases hi : i < W.length
    · rw [List.getElem?_append_left hi] at he
      exact .inl he
    · rw [List.getElem?_append_right (by omega)] at he
      have h0 : i - W.length < 1 := (List.getElem?_eq_some_iff.mp he).1
      rw [show i - W.length = 0 by omega] at he
      cases he
      exact .inr ⟨by omega, rfl⟩
  refine ⟨?_, ?_, ?_, ?_, ?_, ?_⟩
  · rw [List.map_append]
    refine List.nodup_append.mpr ⟨h.nd, by simp, fun x hx y hy e => ?_⟩
    have hy : y = q := by simpa using hy
    subst e hy
    exact hq hx
  · intro e he
    rw [List.length_append]
    rcases List.mem_append.mp he with he | he
    · obtain ⟨a1, a2, a3, a4⟩ := h.ok e he
      exact ⟨a1, a2, a3, by show _ < W.length + 1; omega⟩
    · rw [List.mem_singleton] at he
      subst he
      refine ⟨both_in hm o1 hj hb, fun b hb => ?_, ?_, ?_⟩
      · rcases List.mem_append.mp hb with hb | hb
        · exact o2 b hb
        · rw [List.mem_singleton] at hb; subst hb; exact hj
      · rw [go_snoc, o3]
        exact hb
      · rw [List.length_append]
        show c.2.length + 1 < W.length + 1
        omega
  · intro i l e f hil he hf
    rcases get l f hf with hf | ⟨rfl, rfl⟩
    · rcases get i e he with he | ⟨rfl, rfl⟩
      · exact h.srt i l e f hil he hf
      · have := (List.getElem?_eq_some_iff.mp hf).1
        omega
    · rcases get i e he with he | ⟨rfl, rfl⟩
      · exact h.top c hc e (List.mem_of_getElem? he)
      · omega
  · rw [List.getElem?_append_left (by omega)]
    exact h.hd
  · intro i e he k hk hik
    rcases get i e he with he2 | ⟨rfl, rfl⟩
    · by_cases e1 : i = a ∧ k = j
      · obtain ⟨rfl, rfl⟩ := e1
        rw [hc] at he2
        cases he2
        refine ⟨hu, fun q' hq' => ?_⟩
        rw [hb] at hq'
        cases hq'
        exact ⟨_, List.mem_append_right _ List.mem_cons_self, rfl, Nat.le_refl _⟩
      · obtain ⟨d1, d2⟩ := h.done i e he2 k hk (by omega)
        refine ⟨d1, fun q' hq' => ?_⟩
        obtain ⟨f, hf, h1, h2⟩ := d2 q' hq'
        exact ⟨f, List.mem_append_left _ hf, h1, h2⟩
    · omega
  · intro c' hc' e he
    rw [List.getElem?_append_left hal, hc] at hc'
    cases hc'
    rcases List.mem_append.mp he with he | he
    · have := h.top c hc e he
      rw [vl_snoc] at this ⊢
      omega
    · rw [List.mem_singleton] at he
      subst he
      show vl _ (c.2 ++ [j]) < _
      rw [vl_snoc, vl_snoc]
      omega
theorem qi_next {m : Mach} {p0 : Pair} {W : List Ent} {a : Nat} (h : QI m p0 W a m.asks) : QI m p0 W (a + 1) 0 where
  nd := h.nd
  ok := h.ok
  srt := h.srt
  hd := h.hd
  done := fun i e he k hk hik => h.done i e he k hk (by omega)
  top := fun c' hc' e he => by
    have hl := (List.getElem?_eq_some_iff.mp hc').1
    have hc : W[a]? = some W[a] := List.getElem?_eq_getElem (by omega)
    have h1 := h.top _ hc e he
    have h2 := h.srt a (a + 1) _ _ (Nat.lt_succ_self a) hc hc'
    rw [vl_snoc] at h1 ⊢
    have := Nat.mul_le_mul_right m.asks h2
    rw [Nat.succ_mul] at this
    omega
theorem qi_reach {m : Mach} {most : Nat} (hm : m.Ok most) {p0 : Pair} {W : List Ent} {a j : Nat} (h : QI m p0 W a j) : ∀ (u : List Nat) (s : Pair), AIn m u → goF m p0 u = some s →
    (∃ i e, i < a ∧ W[i]? = some e ∧ e.1 = s ∧ vl m.asks e.2 ≤ vl m.asks u) ∨ ∃ c, W[a]? = some c ∧ vl m.asks c.2 ≤ vl m.asks u ∧ (vl m.asks c.2 = vl m.asks u → c.1 = s) := by
  have same : ∀ c u s, c ∈ W → AIn m u → goF m p0 u = some s → vl m.asks c.2 = vl m.asks u → c.1 = s := fun c u s hc hu hg e => by
    obtain ⟨o1, o2, o3, o4⟩ := h.ok c hc
    rw [vl_inj c.2 u o2 hu e, hg] at o3
    exact (Option.some.inj o3).symm
  have inW : ∀ f u s, f ∈ W → AIn m u → goF m p0 u = some s → f.1 = s → vl m.asks f.2 ≤ vl m.asks u →
      (∃ i e, i < a ∧ W[i]? = some e ∧ e.1 = s ∧ vl m.asks e.2 ≤ vl m.asks u) ∨ ∃ c, W[a]? = some c ∧ vl m.asks c.2 ≤ vl m.asks u ∧ (vl m.asks c.2 = vl m.asks u → c.1 = s) := fun f u s hf hu hg h1 h2 => by
    obtain ⟨l, hl, e⟩ := List.getElem_of_mem hf
    have hl2 : W[l]? = some f := by rw [List.getElem?_eq_getElem hl, e]
    by_cases hla : l < a
    · exact .inl ⟨l, f, hla, hl2, h1, h2⟩
    · have hc : W[a]? = some W[a] := List.getElem?_eq_getElem (by omega)
      refine .inr ⟨_, hc, ?_, same _ u s (List.mem_of_getElem? hc) hu hg⟩
      by_cases e : a = l
      · subst e
        rw [Option.some.inj (hc.symm.trans hl2)]
        exact h2
      · have := h.srt a l _ _ (by omega) hc hl2
        omega
  refine snoc_ind ?_ ?_
  · intro s hu hg
    exact inW (p0, []) [] s (List.mem_of_getElem? h.hd) hu hg (by cases hg; rfl) (Nat.le_refl _)
  · intro u k ih s hu hg
    obtain ⟨hu1, hk⟩ := bel_snoc (B := m.asks) hu
    have hg0 := hg
    rw [go_snoc] at hg
    cases hs : goF m p0 u with
    | none => rw [hs] at hg; cases hg
    | some s' =>
      rw [hs] at hg
      rcases ih s' hu1 hs with ⟨i, e, hi, he, h1, h2⟩ | ⟨c, hc, h2, _⟩
      · obtain ⟨_, d2⟩ := h.done i e he k hk (.inl hi)
        obtain ⟨f, hf, h3, h4⟩ := d2 s (by rw [h1]; exact hg)
        exact inW f (u ++ [k]) s hf hu hg0 h3 (Nat.le_trans h4 (vl_mono_le h2))
      · refine .inr ⟨c, hc, ?_, same _ _ _ (List.mem_of_getElem? hc) hu hg0⟩
        rw [vl_snoc]
        have : vl m.asks u * 1 ≤ vl m.asks u * m.asks := Nat.mul_le_mul_left _ hm.a0
        omega
theorem qi_best {m : Mach} {most : Nat} (hm : m.Ok most) {p0 : Pair} {W : List Ent} {a j : Nat} {c : Ent} (h : QI m p0 W a j) (hj : j < m.asks) (hc : W[a]? = some c) (hu : unlB m c.1 j = true) : Best m p0 (c.2 ++ [j]) := by
  obtain ⟨o1, o2, o3, o4⟩ := h.ok c (List.mem_of_getElem? hc)
  refine ⟨⟨c.2, j, c.1, rfl, fun b hb => ?_, o3, hu⟩, ?_⟩
  · rcases List.mem_append.mp hb with hb | hb
    · exact o2 b hb
    · rw [List.mem_singleton] at hb; subst hb; exact hj
  · rintro row' ⟨u, k, s, rfl, ha, hg, hu2⟩
    obtain ⟨hu1, hk⟩ := bel_snoc (B := m.asks) ha
    rcases qi_reach hm h u s hu1 hg with ⟨i, e, hi, he, h1, h2⟩ | ⟨c', hc', h2, h3⟩
    · have := (h.done i e he k hk (.inl hi)).1
      rw [h1, hu2] at this
      cases this
    · rw [hc] at hc'
      cases hc'
      by_cases e : vl m.asks c.2 = vl m.asks u
      · have hs := h3 e
        rw [vl_snoc, vl_snoc, e]
        by_cases hkj : k < j
        · have := (h.done a c hc k hk (.inr ⟨rfl, hkj⟩)).1
          rw [hs, hu2] at this
          cases this
        · omega
      · exact Nat.le_of_lt (vl_mono hj (by omega))
theorem qi_end {m : Mach} {most : Nat} (hm : m.Ok most) {p0 : Pair} {W : List Ent} {a j : Nat} (h : QI m p0 W a j) (hc : W[a]? = none) (row : List Nat) : ¬ Prt m p0 row := by
  rintro ⟨u, k, s, rfl, ha, hg, hu2⟩
  obtain ⟨hu1, hk⟩ := bel_snoc (B := m.asks) ha
  rcases qi_reach hm h u s hu1 hg with ⟨i, e, hi, he, h1, h2⟩ | ⟨c', hc', h2, h3⟩
  · have := (h.done i e he k hk (.inl hi)).1
    rw [h1, hu2] at this
    cases this
  · rw [hc] at hc'
    cases hc'
/-! rounds from behind -/
def dB (m : Mach) : Nat → Pair → Bool
  | 0, _ => false
  | 1, p => (List.range m.asks).any (unlB m p)
  | n + 2, p => (List.range m.asks).any fun k => (bothF m p k).any fun q => dB m (n + 1) q
theorem dB_two (m : Mach) (n : Nat) (p : Pair) : dB m (n + 2) p = (List.range m.asks).any fun k => (bothF m p k).any fun q => dB m (n + 1) q := rfl
theorem dB_iff (m : Mach) : ∀ (n : Nat) (p : Pair), dB m (n + 1) p = true ↔ ∃ row, row.length = n + 1 ∧ Prt m p row
  | 0, p => by
    show (List.range m.asks).any (unlB m p) = true ↔ _
    rw [List.any_eq_true]
    constructor
    · rintro ⟨k, hk, hu⟩
      exact ⟨[k], rfl, prt_one.mpr ⟨List.mem_range.mp hk, hu⟩⟩
    · rintro ⟨row, hl, hp⟩
      match row, hl with
      | [k], _ =>
        obtain ⟨h1, h2⟩ := prt_one.mp hp
        exact ⟨k, List.mem_range.mpr h1, h2⟩
  | n + 1, p => by
    rw [dB_two, List.any_eq_true]
    constructor
    · rintro ⟨k, hk, hu⟩
      cases hb : bothF m p k with
      | none => rw [hb] at hu; cases hu
      | some q =>
        rw [hb] at hu
        obtain ⟨r, hl, hp⟩ := (dB_iff m n q).mp hu
        exact ⟨k :: r, by rw [List.length_cons, hl], (prt_cons (fun e => by subst e; cases hl)).mpr ⟨List.mem_range.mp hk, q, hb, hp⟩⟩
    · rintro ⟨row, hl, hp⟩
      match row, hl with
      | k :: r, hl =>
        have hl : r.length = n + 1 := by simpa using hl
        obtain ⟨h1, q, h2, h3⟩ := (prt_cons (fun e => by subst e; cases hl)).mp hp
        exact ⟨k, List.mem_range.mpr h1, by rw [h2]; exact (dB_iff m n q).mpr ⟨r, hl, h3⟩⟩
def dsB (m : Mach) (n : Nat) (p : Pair) : Bool := dB m n p && (List.range n).all fun j => !dB m j p
theorem ds_iff {m : Mach} {n : Nat} {p : Pair} : dsB m n p = true ↔ dB m n p = true ∧ ∀ j, j < n → dB m j p = false := by
  unfold dsB
  rw [Bool.and_eq_true, List.all_eq_true]
  exact ⟨fun ⟨a, b⟩ => ⟨a, fun j hj => by simpa using b j (List.mem_range.mpr hj)⟩, fun ⟨a, b⟩ => ⟨a, fun j hj => by rw [b j (List.mem_range.mp hj)]; rfl⟩⟩
theorem ds_uniq {m : Mach} {n k : Nat} {p : Pair} (h : dsB m n p = true) (h2 : dsB m k p = true) : n = k := by
  obtain ⟨a, b⟩ := ds_iff.mp h
  obtain ⟨c, d⟩ := ds_iff.mp h2
  rcases Nat.lt_trichotomy n k with e | e | e
  · have := d n e; rw [a] at this; cases this
  · exact e
  · have := b k e; rw [c] at this; cases this
theorem ds_pos {m : Mach} {n : Nat} {p : Pair} (h : dsB m n p = true) : 0 < n := by
  cases n with
  | zero => exact absurd (ds_iff.mp h).1 (by show ¬ (false = true); exact Bool.false_ne_true)
  | succ n => omega
theorem ds_one {m : Mach} {p : Pair} : dsB m 1 p = (List.range m.asks).any (unlB m p) := by
  unfold dsB
  rw [show (List.range 1) = [0] from rfl]
  show ((List.range m.asks).any (unlB m p) && (!false && true)) = _
  rw [Bool.not_false, Bool.and_true, Bool.and_true]
/-- who has a row that parts, has a least length -/
theorem ds_of {m : Mach} {p : Pair} {row : List Nat} (h : Prt m p row) : ∃ n, dsB m n p = true ∧ n ≤ row.length := by
  have h1 : dB m row.length p = true := by
    cases row with
    | nil => exact absurd h prt_nil
    | cons a r => exact (dB_iff m r.length p).mpr ⟨_, rfl, h⟩
  have H : ∀ n, dB m n p = true → ∃ k, dsB m k p = true ∧ k ≤ n := by
    intro n
    induction n using Nat.strongRecOn with
    | _ n ih =>
      intro hn
      by_cases hs : dsB m n p = true
      · exact ⟨n, hs, Nat.le_refl _⟩
      · have : ∃ j, j < n ∧ dB m j p = true := by
          refine Classical.byContradiction fun hno => hs (ds_iff.mpr ⟨hn, fun j hj => ?_⟩)
          cases hj2 : dB m j p with
          | false => rfl
          | true => exact absurd ⟨j, hj, hj2⟩ hno
        obtain ⟨j, hj, hj2⟩ := this
        obtain ⟨k, hk, hk2⟩ := ih j hj hj2
        exact ⟨k, hk, by omega⟩
  exact H _ h1
theorem ds_step {m : Mach} {n : Nat} {p : Pair} (h : dsB m (n + 2) p = true) {k : Nat} {q : Pair} (hk : k < m.asks) (hb : bothF m p k = some q) (hd : dB m (n + 1) q = true) : dsB m (n + 1) q = true := by
  obtain ⟨_, h2⟩ := ds_iff.mp h
  refine ds_iff.mpr ⟨hd, fun j hj => ?_⟩
  cases e : dB m j q with
  | false => rfl
  | true =>
    cases j with
    | zero => cases e
    | succ j =>
      have h3 := h2 (j + 2) (by omega)
      rw [dB_two, List.any_eq_false] at h3
      exact absurd (by rw [hb]; exact e) (h3 k (List.mem_range.mpr hk))
def okK (m : Mach) (n : Nat) (p : Pair) (k : Nat) : Bool := (bothF m p k).any fun q => dsB m n q
theorem ds_next {m : Mach} {n : Nat} {p : Pair} (h : dsB m (n + 2) p = true) : ∃ k, k < m.asks ∧ okK m (n + 1) p k = true := by
  obtain ⟨h1, _⟩ := ds_iff.mp h
  rw [dB_two, List.any_eq_true] at h1
  obtain ⟨k, hk, hu⟩ := h1
  refine ⟨k, List.mem_range.mp hk, ?_⟩
  unfold okK
  cases hb : bothF m p k with
  | none => rw [hb] at hu; cases hu
  | some q =>
    rw [hb] at hu
    exact ds_step h (List.mem_range.mp hk) hb hu
def firstF (m : Mach) : Nat → Pair → List Nat
  | 0, _ => []
  | 1, p => ((List.range m.asks).find? (unlB m p)).toList
  | n + 2, p => match (List.range m.asks).find? (okK m (n + 1) p) with
    | some k => k :: ((bothF m p k).map (firstF m (n + 1))).getD []
    | none => []
theorem find_range {f : Nat → Bool} {n k : Nat} (h : (List.range n).find? f = some k) : k < n ∧ f k = true ∧ ∀ j, j < k → f j = false := by
  refine ⟨List.mem_range.mp (List.mem_of_find?_eq_some h), List.find?_some h, fun j hj => ?_⟩
  obtain ⟨_, i, hi, e, h3⟩ := List.find?_eq_some_iff_getElem.mp h
  rw [List.getElem_range] at e
  subst e
  have := h3 j hj
  rw [List.getElem_range] at this
  simpa using this
theorem find_some {f : Nat → Bool} {n : Nat} (h : ∃ k, k < n ∧ f k = true) : ∃ k, (List.range n).find? f = some k := by
  obtain ⟨k, h1, h2⟩ := h
  cases e : (List.range n).find? f with
  | some j => exact ⟨j, rfl⟩
  | none =>
    rw [List.find?_eq_none] at e
    exact absurd h2 (e k (List.mem_range.mpr h1))
theorem first_best {m : Mach} : ∀ (n : Nat) (p : Pair), dsB m (n + 1) p = true → Best m p (firstF m (n + 1) p) ∧ (firstF m (n + 1) p).length = n + 1
  | 0, p, h => by
    rw [ds_one, List.any_eq_true] at h
    obtain ⟨k0, h1, h2⟩ := h
    obtain ⟨k, hk⟩ := find_some ⟨k0, List.mem_range.mp h1, h2⟩
    obtain ⟨f1, f2, f3⟩ := find_range hk
    have e : firstF m 1 p = [k] := by
      show ((List.range m.asks).find? (unlB m p)).toList = _
      rw [hk]
      rfl
    rw [e]
    refine ⟨⟨prt_one.mpr ⟨f1, f2⟩, fun row' hr => ?_⟩, rfl⟩
    match row', hr with
    | [], hr => exact absurd hr prt_nil
    | [k'], hr =>
      obtain ⟨_, g2⟩ := prt_one.mp hr
      have : ¬ k' < k := fun hlt => by rw [f3 k' hlt] at g2; cases g2
      show vl m.asks ([] ++ [k]) ≤ vl m.asks ([] ++ [k'])
      rw [vl_snoc, vl_snoc]
      omega
    | a :: b :: r, hr => exact Nat.le_of_lt (vl_len (fun x hx => by rw [List.mem_singleton] at hx; subst hx; exact f1) (by simp))
  | n + 1, p, h => by
    obtain ⟨k, hk⟩ := find_some (ds_next h)
    obtain ⟨f1, f2, f3⟩ := find_range hk
    unfold okK at f2
    cases hb : bothF m p k with
    | none => rw [hb] at f2; cases f2
    | some q =>
      rw [hb] at f2
      have f2 : dsB m (n + 1) q = true := f2
      obtain ⟨⟨i1, i2⟩, i3⟩ := first_best n q f2
      have e : firstF m (n + 2) p = k :: firstF m (n + 1) q := by
        show (match (List.range m.asks).find? (okK m (n + 1) p) with | some k => k :: ((bothF m p k).map (firstF m (n + 1))).getD [] | none => []) = _
        rw [hk]
        show k :: ((bothF m p k).map (firstF m (n + 1))).getD [] = _
        rw [hb]
        rfl
      have hne : firstF m (n + 1) q ≠ [] := fun e => by rw [e] at i3; cases i3
      rw [e]
      have hprt : Prt m p (k :: firstF m (n + 1) q) := (prt_cons hne).mpr ⟨f1, q, hb, i1⟩
      refine ⟨⟨hprt, fun row' hr => ?_⟩, by rw [List.length_cons, i3]⟩
      rcases Nat.lt_trichotomy row'.length (n + 2) with hl | hl | hl
      · exfalso
        cases row' with
        | nil => exact prt_nil hr
        | cons a r =>
          have := (ds_iff.mp h).2 (r.length + 1) hl
          rw [(dB_iff m r.length p).mpr ⟨_, rfl, hr⟩] at this
          cases this
      · match row', hl with
        | k' :: r', hl0 =>
          have hl2 : r'.length = n + 1 := by simpa using hl0
          have hne' : r' ≠ [] := fun e => by subst e; cases hl2
          obtain ⟨g1, q', g2, g3⟩ := (prt_cons hne').mp hr
          have hd := ds_step h g1 g2 ((dB_iff m n q').mpr ⟨r', hl2, g3⟩)
          have hok : okK m (n + 1) p k' = true := by unfold okK; rw [g2]; exact hd
          have hkk : ¬ k' < k := fun hlt => by rw [f3 k' hlt] at hok; cases hok
          by_cases e : k = k'
          · subst e
            rw [hb] at g2
            cases g2
            rw [vl_cons, vl_cons, i3, hl2]
            have := i2 r' g3
            omega
          · exact Nat.le_of_lt (vl_head (prt_ain i1) (by rw [i3, hl2]) (by omega))
      · exact Nat.le_of_lt (vl_len (prt_ain hprt) (by rw [List.length_cons, i3]; exact hl))
/-! the table of lengths -/
def pairsN (m : Mach) : List Pair := (List.range (m.rooms.length * m.rooms.length)).map fun k => (k / m.rooms.length, k % m.rooms.length)
theorem mem_pairs {m : Mach} {p : Pair} : p ∈ pairsN m ↔ PIn m p := by
  unfold pairsN
  rw [List.mem_map]
  constructor
  · rintro ⟨k, hk, rfl⟩
    rw [List.mem_range] at hk
    have hn : 0 < m.rooms.length := by
      rcases Nat.eq_zero_or_pos m.rooms.length with e | e
      · rw [e] at hk; simp at hk
      · exact e
    exact ⟨Nat.div_lt_of_lt_mul hk, Nat.mod_lt _ hn⟩
  · rintro ⟨h1, h2⟩
    refine ⟨p.1 * m.rooms.length + p.2, List.mem_range.mpr ?_, ?_⟩
    · have : (p.1 + 1) * m.rooms.length ≤ m.rooms.length * m.rooms.length := Nat.mul_le_mul_right _ h1
      rw [Nat.add_mul] at this
      omega
    · refine Prod.ext ?_ ?_
      · show (p.1 * m.rooms.length + p.2) / m.rooms.length = p.1
        rw [Nat.mul_comm, Nat.mul_add_div (by omega), Nat.div_eq_of_lt h2, Nat.add_zero]
      · show (p.1 * m.rooms.length + p.2) % m.rooms.length = p.2
        rw [Nat.mul_comm, Nat.mul_add_mod, Nat.mod_eq_of_lt h2]
theorem pairs_nodup (m : Mach) : (pairsN m).Nodup := by
  refine nodup_map (fun x _ y _ e => ?_) List.nodup_range
  have e1 : x / m.rooms.length = y / m.rooms.length := congrArg Prod.fst e
  have e2 : x % m.rooms.length = y % m.rooms.length := congrArg Prod.snd e
  rw [← Nat.div_add_mod x m.rooms.length, ← Nat.div_add_mod y m.rooms.length, e1, e2]
def hereL (m : Mach) (L : Nat) : List Pair := (pairsN m).filter (dsB m L)
theorem mem_here {m : Mach} {L : Nat} {p : Pair} : p ∈ hereL m L ↔ PIn m p ∧ dsB m L p = true := by unfold hereL; rw [List.mem_filter, mem_pairs]
def farL (m : Mach) : Nat → List (Pair × Nat)
  | 0 => []
  | L + 1 => farL m L ++ (hereL m L).map fun p => (p, L)
theorem mem_far {m : Mach} : ∀ {L : Nat} {e : Pair × Nat}, e ∈ farL m L ↔ PIn m e.1 ∧ dsB m e.2 e.1 = true ∧ e.2 < L
  | 0, e => ⟨fun h => (nomatch h), fun h => absurd h.2.2 (Nat.not_lt_zero _)⟩
  | L + 1, e => by
    show e ∈ farL m L ++ (hereL m L).map _ ↔ _
    rw [List.mem_append, mem_far, List.mem_map]
    constructor
    · rintro (⟨a, b, c⟩ | ⟨p, hp, rfl⟩)
      · exact ⟨a, b, by omega⟩
      · obtain ⟨a, b⟩ := mem_here.mp hp
        exact ⟨a, b, Nat.lt_succ_self _⟩
    · rintro ⟨a, b, c⟩
      by_cases e1 : e.2 = L
      · exact .inr ⟨e.1, mem_here.mpr ⟨a, by rw [← e1]; exact b⟩, by rw [← e1]⟩
      · exact .inl ⟨a, b, by omega⟩
theorem far_nodup (m : Mach) : ∀ L, ((farL m L).map (·.1)).Nodup
  | 0 => List.nodup_nil
  | L + 1 => by
    show ((farL m L ++ (hereL m L).map fun p => (p, L)).map (·.1)).Nodup
    rw [List.map_append, List.map_map]
    refine List.nodup_append.mpr ⟨far_nodup m L, ?_, fun x hx y hy e => ?_⟩
    · have : (hereL m L).map ((fun x : Pair × Nat => x.1) ∘ fun p => (p, L)) = hereL m L := by
        show (hereL m L).map (fun p => p) = _
        exact List.map_id' _
      rw [this]
      exact List.Pairwise.filter _ (pairs_nodup m)
    · subst e
      obtain ⟨e, he, rfl⟩ := List.mem_map.mp hx
      obtain ⟨_, h2, h3⟩ := mem_far.mp he
      obtain ⟨p, hp, e2⟩ := List.mem_map.mp hy
      obtain ⟨_, h4⟩ := mem_here.mp hp
      have e2 : p = e.1 := e2
      subst e2
      have := ds_uniq h2 h4
      omega
theorem far_len (m : Mach) (L : Nat) : (farL m L).length ≤ m.rooms.length * m.rooms.length := by
  have := pairs_le (far_nodup m L) fun p hp => by
    obtain ⟨e, he, rfl⟩ := List.mem_map.mp hp
    exact (mem_far.mp he).1
  rwa [List.length_map] at this
theorem here_next {m : Mach} {most : Nat} (hm : m.Ok most) {L : Nat} (hL : 0 < L) {p : Pair} (hp : PIn m p) :
    (!((farL m (L + 1)).any fun e => e.1 == p) && (List.range m.asks).any fun k => (bothF m p k).any fun q => (farL m (L + 1)).any fun e => e.1 == q) = dsB m (L + 1) p := by
  have inf : ∀ q, PIn m q → (((farL m (L + 1)).any fun e => e.1 == q) = true ↔ ∃ n, dsB m n q = true ∧ n < L + 1) := fun q hq => by
    rw [List.any_eq_true]
    constructor
    · rintro ⟨e, he, e2⟩
      rw [beq_iff_eq] at e2
      subst e2
      obtain ⟨_, a, b⟩ := mem_far.mp he
      exact ⟨_, a, b⟩
    · rintro ⟨n, a, b⟩
      exact ⟨(q, n), mem_far.mpr ⟨hq, a, b⟩, beq_self_eq_true _⟩
  obtain ⟨n, rfl⟩ : ∃ n, L = n + 1 := ⟨L - 1, by omega⟩
  rw [Bool.eq_iff_iff, Bool.and_eq_true, Bool.not_eq_true', List.any_eq_true]
  constructor
  · rintro ⟨h1, k, hk, h2⟩
    cases hb : bothF m p k with
    | none => rw [hb] at h2; cases h2
    | some q =>
      rw [hb] at h2
      have hk := List.mem_range.mp hk
      obtain ⟨j, hj, hj2⟩ := (inf q (both_in hm hp hk hb)).mp h2
      have hno : ∀ i, dsB m i p = true → ¬ i < n + 1 + 1 := fun i hi hlt => by
        have := (inf p hp).mpr ⟨i, hi, hlt⟩
        rw [h1] at this
        cases this
      have hjp := ds_pos hj
      obtain ⟨j, rfl⟩ : ∃ i, j = i + 1 := ⟨j - 1, by omega⟩
      obtain ⟨r, hl, hr⟩ := (dB_iff m j q).mp (ds_iff.mp hj).1
      have hprt : Prt m p (k :: r) := (prt_cons (fun e => by subst e; cases hl)).mpr ⟨hk, q, hb, hr⟩
      obtain ⟨i, hi, hi2⟩ := ds_of hprt
      rw [List.length_cons, hl] at hi2
      have := hno i hi
      have e : i = n + 1 + 1 := by omega
      rw [← e]
      exact hi
  · intro h
    refine ⟨?_, ?_⟩
    · cases e : (farL m (n + 1 + 1)).any fun e => e.1 == p with
      | false => rfl
      | true =>
        obtain ⟨j, hj, hj2⟩ := (inf p hp).mp e
        have := ds_uniq h hj
        omega
    · obtain ⟨k, hk, hk2⟩ := ds_next h
      refine ⟨k, List.mem_range.mpr hk, ?_⟩
      unfold okK at hk2
      cases hb : bothF m p k with
      | none => rw [hb] at hk2; cases hk2
      | some q =>
        rw [hb] at hk2
        exact (inf q (both_in hm hp hk hb)).mpr ⟨n + 1, hk2, Nat.lt_succ_self _⟩
/-- a round without pairs is the last one -/
theorem far_end {m : Mach} {most : Nat} (hm : m.Ok most) {L : Nat} (hL : 0 < L) (h : hereL m L = []) : ∀ n p, PIn m p → dsB m n p = true → n < L := by
  have H : ∀ d p, PIn m p → dsB m (L + d) p = true → False := by
    intro d
    induction d with
    | zero => intro p hp hd; have h2 : p ∈ hereL m L := mem_here.mpr ⟨hp, hd⟩; rw [h] at h2; cases h2
    | succ d ih =>
      intro p hp hd
      obtain ⟨n, e⟩ : ∃ n, L + d = n + 1 := ⟨L + d - 1, by omega⟩
      rw [show L + (d + 1) = n + 2 by omega] at hd
      obtain ⟨k, hk, hk2⟩ := ds_next hd
      unfold okK at hk2
      cases hb : bothF m p k with
      | none => rw [hb] at hk2; cases hk2
      | some q =>
        rw [hb] at hk2
        exact ih q (both_in hm hp hk hb) (by rw [e]; exact hk2)
  intro n p hp hd
  by_cases hn : n < L
  · exact hn
  · exact (H (n - L) p hp (by rw [show L + (n - L) = n by omega]; exact hd)).elim
/-- the table is whole -/
def Whole (m : Mach) (L : Nat) : Prop := ∀ n p, PIn m p → dsB m n p = true → n < L
abbrev pk (p : Pair) : List Key := [.inl (p.1 : Int), .inl (p.2 : Int)]
theorem pk_inj {p q : Pair} (h : pk p = pk q) : p = q := by
  simp only [pk, List.cons.injEq, Sum.inl.injEq, and_true] at h
  exact Prod.ext (by omega) (by omega)
def farT (m : Mach) (L : Nat) : List (List Key × D) := (farL m L).map fun e => (pk e.1, D.int (e.2 : Nat))
theorem far_val {m : Mach} {L n : Nat} {p : Pair} (hp : PIn m p) (h : dsB m n p = true) (hn : n < L) : valD (farT m L) (pk p) = some (.int (n : Nat)) :=
  valD_some (f := fun e : Pair × Nat => pk e.1) (g := fun e => D.int (e.2 : Nat)) ⟨(p, n), mem_far.mpr ⟨hp, h, hn⟩, rfl⟩ fun e he e2 => by
    have e2 := pk_inj e2
    obtain ⟨_, h2, _⟩ := mem_far.mp he
    rw [e2] at h2
    rw [ds_uniq h2 h]
theorem far_no {m : Mach} {L : Nat} {p : Pair} (h : ∀ n, n < L → dsB m n p = false) : valD (farT m L) (pk p) = none :=
  valD_none (f := fun e : Pair × Nat => pk e.1) (g := fun e => D.int (e.2 : Nat)) fun e he e2 => by
    have e2 := pk_inj e2
    obtain ⟨_, h2, h3⟩ := mem_far.mp he
    rw [e2, h _ h3] at h2
    cases h2
theorem far_some {m : Mach} {L : Nat} {p : Pair} : (valD (farT m L) (pk p)).isSome = (farL m L).any fun e => e.1 == p := by
  cases h : (farL m L).any fun e => e.1 == p with
  | false =>
    rw [List.any_eq_false] at h
    have : valD (farT m L) (pk p) = none := valD_none (f := fun e : Pair × Nat => pk e.1) (g := fun e => D.int (e.2 : Nat)) fun e he e2 => h e he (by rw [pk_inj e2]; exact beq_self_eq_true _)
    rw [this]
    rfl
  | true =>
    obtain ⟨e, he, e2⟩ := List.any_eq_true.mp h
    rw [beq_iff_eq] at e2
    subst e2
    obtain ⟨h1, h2, h3⟩ := mem_far.mp he
    rw [far_val h1 h2 h3]
    rfl
end L09

namespace L09
open PySem PySem.Spec L2 Oc
open Evl (Ex)
local macro_rules | `(tactic| walk_at "s") => `(tactic| first | assumption | omega | decide | (simp only [] at *; omega))
local macro_rules | `(tactic| walk_at "Add") => `(tactic| first | refine o_add ?_ | refine o_addS (by walk_at "s") ?_ | refine o_addT (by walk_at "s") ?_ | refine o_addL (by walk_at "s") ?_)
local macro_rules | `(tactic| walk_at "Sub") => `(tactic| refine o_sub ?_)
local macro_rules | `(tactic| walk_at "Mult") => `(tactic| refine o_mul (by walk_at "s") ?_)
local macro_rules | `(tactic| walk_at "Mod") => `(tactic| first | refine o_mod (by walk_at "s") ?_)
local macro_rules | `(tactic| walk_at "FloorDiv") => `(tactic| first | refine o_div (by walk_at "s") ?_)
local macro_rules | `(tactic| walk_at "Pow") => `(tactic| refine o_pow (by walk_at "s") ?_)
local macro_rules | `(tactic| walk_at "LShift") => `(tactic| refine o_shl (by walk_at "s") ?_)
local macro_rules | `(tactic| walk_at "RShift") => `(tactic| refine o_shr (by walk_at "s") ?_)
local macro_rules | `(tactic| walk_at "BitAnd") => `(tactic| refine o_band ?_)
local macro_rules | `(tactic| walk_at "BitXor") => `(tactic| refine o_bxor ?_)
local macro_rules | `(tactic| walk_at "BitOr") => `(tactic| refine o_bor ?_)
local macro_rules | `(tactic| walk_at "Lt") => `(tactic| refine o_lt ?_)
local macro_rules | `(tactic| walk_at "LtE") => `(tactic| refine o_le ?_)
local macro_rules | `(tactic| walk_at "Gt") => `(tactic| refine o_gt ?_)
local macro_rules | `(tactic| walk_at "GtE") => `(tactic| refine o_ge ?_)
local macro_rules | `(tactic| walk_at "Eq") => `(tactic| refine o_eq (by rfl) ?_)
local macro_rules | `(tactic| walk_at "NotEq") => `(tactic| refine o_ne (by rfl) ?_)
local macro_rules | `(tactic| walk_at "Is") => `(tactic| refine o_isN ?_)
local macro_rules | `(tactic| walk_at "IsNot") => `(tactic| refine o_notN ?_)
local macro_rules | `(tactic| walk_at "In") => `(tactic| refine o_in (by first | exact .inl rfl | exact .inr (.inl rfl) | exact .inr (.inr rfl)) (by rfl) (by rfl) ?_)
local macro_rules | `(tactic| walk_at "NotIn") => `(tactic| refine o_nin (by first | exact .inl rfl | exact .inr (.inl rfl) | exact .inr (.inr rfl)) (by rfl) (by rfl) ?_)
local macro_rules | `(tactic| walk_at "c_abs") => `(tactic| refine c_abs ?_)
local macro_rules | `(tactic| walk_at "c_len") => `(tactic| first | refine c_lenL ?_ | refine c_lenC ?_ | refine c_lenT ?_ | refine c_lenS (by walk_at "s") ?_ | refine c_lenP 0 (by first | assumption | rfl) ?_)
local macro_rules | `(tactic| walk_at "c_str") => `(tactic| refine c_str (by walk_at "s") ?_)
local macro_rules | `(tactic| walk_at "c_isinstance") => `(tactic| refine c_isi rfl (by rfl) ?_)
local macro_rules | `(tactic| walk_at "sl") => `(tactic| first | refine sd_tup ?_ | refine sd_lst ?_)
local macro_rules | `(tactic| walk_at "c_tuple") => `(tactic| first | refine c_tupL ?_ | refine c_tupP 0 (by first | assumption | rfl) ?_ | refine c_tupT ?_)
local macro_rules | `(tactic| walk_at "c_int") => `(tactic| first | refine c_intB ?_)
local macro_rules | `(tactic| walk_at "USub") => `(tactic| refine u_neg ?_)
local macro_rules | `(tactic| walk_at "pen") => `(tactic| first | assumption | exact get_set (by assumption) | exact get_set (get_set (by assumption)) | exact get_here | (apply get_cons; walk_at "pen") | (apply get_app; walk_at "pen"))
local macro_rules | `(tactic| walk_at "mu") => `(tactic| simp only [List.set_cons_succ, List.set_set, List.set_cons_zero])
theorem toNat_natCast' (k : Nat) : ((k : Nat) : Int).toNat = k := Int.toNat_natCast k
theorem mul_cast (a b : Nat) : ((a : Nat) : Int) * ((b : Nat) : Int) = ((a * b : Nat) : Int) := (Int.natCast_mul a b).symm
/-! ### partings: the walk -/
def poD : Option Pair → D
  | none => .non
  | some p => pairD p
def roD : Option (List Nat) → D
  | none => .non
  | some r => rowD r
def roP : Option (List Nat) → PyData
  | none => .none
  | some r => .tuple (r.map fun a : Nat => .int a)
def Res (m : Mach) (p : Pair) : Option (List Nat) → Prop
  | none => ∀ row, ¬ Prt m p row
  | some r => Best m p r ∧ r.length ≤ 20000
theorem res_uniq {m : Mach} {p : Pair} : ∀ {a b : Option (List Nat)}, Res m p a → Res m p b → a = b
  | none, none, _, _ => rfl
  | some a, none, ha, hb => absurd ha.1.1 (hb a)
  | none, some b, ha, hb => absurd hb.1.1 (ha b)
  | some a, some b, ha, hb => by rw [best_uniq ha.1 hb.1]
theorem shw_ro (μ : Mu) : ∀ r : Option (List Nat), Shw μ (roD r) (roP r)
  | none => .non
  | some r => .tup (Shws.map (f := fun a : Nat => D.int a) (g := fun a : Nat => PyData.int a) (fun _ => .int _) r)
theorem tm_ro {m : Mach} {most : Nat} (hm : m.Ok most) {p : Pair} : ∀ {r : Option (List Nat)}, Res m p r → Tm (roP r) 100000 5
  | none, _ => Tm.non.mono (by decide) (by decide)
  | some r, h => by
    have t : Tms (r.map fun a : Nat => PyData.int a) ((0 + 1) * r.length) 0 := Tms.map fun a ha => Tm.int (by have := prt_ain h.1.1 a ha; have := hm.a4; omega)
    have hl : r.length ≤ 20000 := h.2
    exact (Tm.tup t).mono (by omega) (by omega)
theorem ly_pair (p : Pair) : Ly (pairD p) 1 := Ly.tup (.cons (.int _) (.cons (.int _) .nil))
theorem ly_po : ∀ o : Option Pair, Ly (poD o) 1
  | none => Ly.non.mono (Nat.zero_le _)
  | some p => ly_pair p
theorem eqv_nil (ds : List D) : PyData.eqv (D.lst ds).py (D.lst []).py = ds.isEmpty := by
  cases ds with
  | nil => simp only [D.py, D.pys, PyData.eqv, PyData.eqvAll]; rfl
  | cons a l => simp only [D.py, D.pys, PyData.eqv, PyData.eqvAll]; rfl
theorem filt_any {α : Type} (f : α → Bool) (l : List α) : (l.filter f).isEmpty = !l.any f := by
  rw [Bool.eq_iff_iff, List.isEmpty_iff, List.filter_eq_nil_iff, Bool.not_eq_true', List.any_eq_false]
theorem unl_eq (x y : Nat) : (!D.eqf (.int (x : Int)) (.int (y : Int))) = unlC (some x) (some y) := by
  show (!((x : Int) == (y : Int))) = !(x == y)
  congr 1
  rw [Bool.eq_iff_iff, beq_iff_eq, beq_iff_eq]
  omega
theorem not_non {x : Option Nat} (h : (!D.isN (optD x)) = true) : ∃ n, x = some n := by
  cases x with
  | none => cases h
  | some n => exact ⟨n, rfl⟩
theorem is_non {x : Option Nat} (h : (!D.isN (optD x)) = false) : x = none := by
  cases x with
  | none => rfl
  | some n => cases h
theorem po_some {o : Option Pair} (h : (!D.isN (poD o)) = true) : ∃ p, o = some p := by
  cases o with
  | none => cases h
  | some n => exact ⟨n, rfl⟩
theorem po_none {o : Option Pair} (h : (!D.isN (poD o)) = false) : o = none := by
  cases o with
  | none => rfl
  | some n => cases h
theorem unl_none (x : Option Nat) : unlC x none = false := by cases x <;> rfl
def metT (W : List Ent) : List (List Key × D) := W.map fun e => (pk e.1, D.bl true)
def newB (W : List Ent) : Option Pair → Bool
  | none => false
  | some q => !(W.any fun e => e.1 == q)
theorem met_val (W : List Ent) (q : Pair) : (valD (metT W) (pk q)).isSome = W.any fun e => e.1 == q := by
  cases h : W.any fun e => e.1 == q with
  | false =>
    rw [List.any_eq_false] at h
    have : valD (metT W) (pk q) = none := valD_none (f := fun e : Ent => pk e.1) (g := fun _ => D.bl true) fun e he e2 => h e he (by rw [pk_inj e2]; exact beq_self_eq_true _)
    rw [this]
    rfl
  | true =>
    obtain ⟨e, he, e2⟩ := List.any_eq_true.mp h
    rw [beq_iff_eq] at e2
    have : valD (metT W) (pk q) = some (.bl true) := valD_some (f := fun e : Ent => pk e.1) (g := fun _ => D.bl true) ⟨e, he, by rw [e2]⟩ fun _ _ _ => rfl
    rw [this]
    rfl
theorem new_no {W : List Ent} {q : Pair} (h : newB W (some q) = true) : q ∉ W.map (·.1) ∧ valD (metT W) (pk q) = none := by
  have h : (!(W.any fun e => e.1 == q)) = true := h
  rw [Bool.not_eq_true'] at h
  have h2 := met_val W q
  rw [h] at h2
  refine ⟨fun hq => ?_, by cases e : valD (metT W) (pk q) with | none => rfl | some d => rw [e] at h2; cases h2⟩
  obtain ⟨e, he, rfl⟩ := List.mem_map.mp hq
  rw [List.any_eq_false] at h
  exact h e he (beq_self_eq_true _)
theorem new_old {W : List Ent} {q : Pair} (h : newB W (some q) = false) : q ∈ W.map (·.1) := by
  have h : (!(W.any fun e => e.1 == q)) = false := h
  rw [Bool.not_eq_false'] at h
  obtain ⟨e, he, h2⟩ := List.any_eq_true.mp h
  exact List.mem_map.mpr ⟨e, he, beq_iff_eq.mp h2⟩
def S_differ : FS := fun ds μ Φ => ∃ (x y : Option Nat), ds = [optD x, optD y] ∧ Φ (.bl (unlC x y)) μ
def S_both : FS := fun ds μ Φ => ∃ (m : Mach) (most a b kk : Nat), ds = [machD m, .int a, .int b, .int kk] ∧ m.Ok most ∧ PIn m (a, b) ∧ kk < m.asks ∧ Φ (poD (bothF m (a, b) kk)) μ
def S_unl : FS := fun ds μ Φ => ∃ (m : Mach) (most a b kk : Nat), ds = [machD m, .int a, .int b, .int kk] ∧ m.Ok most ∧ PIn m (a, b) ∧ kk < m.asks ∧ Φ (.bl (unlB m (a, b) kk)) μ
def S_part : FS := fun ds μ Φ => ∃ (m : Mach) (most a b : Nat), ds = [machD m, .int a, .int b] ∧ m.Ok most ∧ most ≤ 100 ∧ PIn m (a, b) ∧ ∀ res, Res m (a, b) res → Φ (roD res) μ
section
variable {P : Program} {w : World} {K : PySem.W.Frag} {mg : Str → Option Value} {base : Heap}
theorem ok_differ (B : Src K mg "differ" s_differ ["one", "other"]) (T : Tx mg) : KnG P w K mg base 1 "differ" ["one", "other"] S_differ := by
  refine kn_ofG B sc_differ (fun ds μ Φ h => by obtain ⟨_, _, rfl, _⟩ := h; rfl) fun f cdv A outer s H E grd hr ds μ Φ h => ?_
  obtain ⟨x, y, rfl, q⟩ := h
  -- return one is not None and other is not None and (one != other)
  refine w_cons (w_ret ?_)
  refine w_andV ?_
  refine w_cmp ?_
  refine w_name 0 rfl (.inl rfl) rfl ?_
  refine w_non ?_
  walk_at "IsNot"
  refine ⟨_, rfl, fun hb0 => ?_, fun hb0 => ?_⟩
  rotate_left
  · rw [is_non hb0] at q
    exact q
  obtain ⟨x, rfl⟩ := not_non hb0
  refine w_andV ?_
  refine w_cmp ?_
  refine w_name 1 rfl (.inl rfl) rfl ?_
  refine w_non ?_
  walk_at "IsNot"
  refine ⟨_, rfl, fun hb1 => ?_, fun hb1 => ?_⟩
  rotate_left
  · rw [is_non hb1] at q
    exact q
  obtain ⟨y, rfl⟩ := not_non hb1
  refine w_andV1 ?_
  refine w_cmp ?_
  refine w_name 0 rfl (.inl rfl) rfl ?_
  refine w_name 1 rfl (.inl rfl) rfl ?_
  refine o_ne (by rfl) ?_
  rw [← unl_eq] at q
  exact q
theorem ok_both (B : Src K mg "both_go" s_both_go ["machine", "one", "other", "ask"]) (T : Tx mg) : KnG P w K mg base 1 "both_go" ["machine", "one", "other", "ask"] S_both := by
  refine kn_ofG B sc_both_go (fun ds μ Φ h => by obtain ⟨_, _, _, _, _, rfl, _⟩ := h; rfl) fun f cdv A outer s H E grd hr ds μ Φ h => ?_
  obtain ⟨m, most, a, b, kk, rfl, hm, ⟨ha, hb⟩, hk, q⟩ := h
  obtain ⟨g1, g2, _⟩ := mach_at hm ha hk
  obtain ⟨g3, g4, _⟩ := mach_at hm hb hk
  have e : bothF m (a, b) kk = bothC (m.cell a kk).1 (m.cell b kk).1 := rfl
  rw [e] at q
  -- goes = machine[1][one][ask][0]
  refine w_cons (w_set 4 sc_both_go.nd rfl (.inl rfl) (.inl rfl) ?_)
  refine w_ix ?_
  refine w_ix ?_
  refine w_ix ?_
  refine w_ix ?_
  refine w_name 0 rfl (.inl rfl) rfl ?_
  refine w_int ?_
  refine ix_tupD 1 rfl rfl ?_
  refine w_name 1 rfl (.inl rfl) rfl ?_
  refine ix_tupD a rfl g1 ?_
  refine w_name 3 rfl (.inl rfl) rfl ?_
  refine ix_tupD kk rfl g2 ?_
  refine w_int ?_
  refine ix_tupD 0 rfl rfl ?_
  -- there = machine[1][other][ask][0]
  refine w_cons (w_set 5 sc_both_go.nd rfl (.inl rfl) (.inl rfl) ?_)
  refine w_ix ?_
  refine w_ix ?_
  refine w_ix ?_
  refine w_ix ?_
  refine w_name 0 rfl (.inl rfl) rfl ?_
  refine w_int ?_
  refine ix_tupD 1 rfl rfl ?_
  refine w_name 2 rfl (.inl rfl) rfl ?_
  refine ix_tupD b rfl g3 ?_
  refine w_name 3 rfl (.inl rfl) rfl ?_
  refine ix_tupD kk rfl g4 ?_
  refine w_int ?_
  refine ix_tupD 0 rfl rfl ?_
  generalize (m.cell a kk).1 = x at q
  generalize (m.cell b kk).1 = y at q
  -- if goes is None or there is None:
  refine w_cons (w_if ?_)
  refine wt_b ((bothC x y).isNone) ?_ ?_
  · refine wt_w ?_
    refine ww_or ?_
    refine wt_cmp ?_
    refine w_name 4 rfl (.inl rfl) rfl ?_
    refine w_non ?_
    walk_at "Is"
    refine ⟨_, rfl, ?_⟩
    refine ⟨fun hb0 => ?_, fun hb0 => ⟨(by revert hb0; cases x <;> intro hb0 <;> first | rfl | cases hb0), rfl⟩⟩
    refine ww_or1 ?_
    refine wt_cmp ?_
    refine w_name 5 rfl (.inl rfl) rfl ?_
    refine w_non ?_
    walk_at "Is"
    refine ⟨_, rfl, ?_⟩
    exact ⟨(by revert hb0; cases x <;> cases y <;> intro hb0 <;> first | rfl | cases hb0), rfl⟩
  refine ⟨fun hb => ?_, fun hb => ?_⟩
  · -- return None
    refine w_cons (w_ret ?_)
    refine w_non ?_
    have e : bothC x y = none := by simpa using hb
    rw [e] at q
    exact q
  refine w_nil ?_
  -- return (goes, there)
  refine w_cons (w_ret ?_)
  refine w_tup ?_
  refine wa_cons ?_
  refine w_name 4 rfl (.inl rfl) rfl ?_
  refine wa_cons ?_
  refine w_name 5 rfl (.inl rfl) rfl ?_
  refine wa_nil ?_
  refine ⟨by simp, ?_⟩
  revert hb q
  cases x <;> cases y <;> intro q hb <;> first | exact q | cases hb
theorem ok_unlike (B : Src K mg "are_unlike" s_are_unlike ["machine", "one", "other", "ask"]) (T : Tx mg) (G_differ : KnG P w K mg base 1 "differ" ["one", "other"] S_differ) : KnG P w K mg base 2 "are_unlike" ["machine", "one", "other", "ask"] S_unl := by
  refine kn_ofG B sc_are_unlike (fun ds μ Φ h => by obtain ⟨_, _, _, _, _, rfl, _⟩ := h; rfl) fun f cdv A outer s H E grd hr ds μ Φ h => ?_
  obtain ⟨m, most, a, b, kk, rfl, hm, ⟨ha, hb⟩, hk, q⟩ := h
  obtain ⟨g1, g2, _⟩ := mach_at hm ha hk
  obtain ⟨g3, g4, _⟩ := mach_at hm hb hk
  -- return differ(machine[1][one][ask][1], machine[1][other][ask][1])
  refine w_cons (w_ret ?_)
  refine w_callG G_differ hr ?_
  refine wa_cons ?_
  refine w_ix ?_
  refine w_ix ?_
  refine w_ix ?_
  refine w_ix ?_
  refine w_name 0 rfl (.inl rfl) rfl ?_
  refine w_int ?_
  refine ix_tupD 1 rfl rfl ?_
  refine w_name 1 rfl (.inl rfl) rfl ?_
  refine ix_tupD a rfl g1 ?_
  refine w_name 3 rfl (.inl rfl) rfl ?_
  refine ix_tupD kk rfl g2 ?_
  refine w_int ?_
  refine ix_tupD 1 rfl rfl ?_
  refine wa_cons ?_
  refine w_ix ?_
  refine w_ix ?_
  refine w_ix ?_
  refine w_ix ?_
  refine w_name 0 rfl (.inl rfl) rfl ?_
  refine w_int ?_
  refine ix_tupD 1 rfl rfl ?_
  refine w_name 2 rfl (.inl rfl) rfl ?_
  refine ix_tupD b rfl g3 ?_
  refine w_name 3 rfl (.inl rfl) rfl ?_
  refine ix_tupD kk rfl g4 ?_
  refine w_int ?_
  refine ix_tupD 1 rfl rfl ?_
  refine wa_nil ?_
  exact ⟨(m.cell a kk).2, (m.cell b kk).2, rfl, q⟩
  skip
theorem ok_part (B : Src K mg "parting" s_parting ["machine", "one", "other"]) (T : Tx mg) (G_both_go : KnG P w K mg base 1 "both_go" ["machine", "one", "other", "ask"] S_both) (G_are_unlike : KnG P w K mg base 2 "are_unlike" ["machine", "one", "other", "ask"] S_unl) : KnG P w K mg base 3 "parting" ["machine", "one", "other"] S_part := by
  refine kn_ofG B sc_parting (fun ds μ Φ h => by obtain ⟨_, _, _, _, rfl, _⟩ := h; rfl) fun f cdv A outer s H E grd hr ds μ Φ h => ?_
  obtain ⟨m, most, a, b, rfl, hm, hmost, hp, kq⟩ := h
  have hu := hu_of hr.r
  have hN : m.rooms.length * m.rooms.length ≤ 100 * 100 := Nat.mul_le_mul (Nat.le_trans hm.rm hmost) (Nat.le_trans hm.rm hmost)
  -- waiting = [((one, other), ())]
  refine w_cons (w_set 3 sc_parting.nd rfl (.inl rfl) (.inl rfl) ?_)
  refine w_lstM ?_
  refine wa_cons ?_
  refine w_tup ?_
  refine wa_cons ?_
  refine w_tup ?_
  refine wa_cons ?_
  refine w_name 1 rfl (.inl rfl) rfl ?_
  refine wa_cons ?_
  refine w_name 2 rfl (.inl rfl) rfl ?_
  refine wa_nil ?_
  refine ⟨by simp, ?_⟩
  refine wa_cons ?_
  refine w_tup ?_
  refine wa_nil ?_
  refine ⟨by simp, ?_⟩
  refine wa_nil ?_
  refine ⟨by simp, ?_⟩
  refine wa_nil ?_
  refine ⟨by simp, fun p_waiting => ?_⟩
  -- met = {(one, other): True}
  refine w_cons (w_set 4 sc_parting.nd rfl (.inl rfl) (.inl rfl) ?_)
  refine w_dispT hu fun q => ?_
  refine w_tup ?_
  refine wa_cons ?_
  refine w_name 1 rfl (.inl rfl) rfl ?_
  refine wa_cons ?_
  refine w_name 2 rfl (.inl rfl) rfl ?_
  refine wa_nil ?_
  refine ⟨by simp, ?_⟩
  refine w_bl ?_
  refine ⟨pk (a, b), _, rfl, rfl, ?_⟩
  -- at = 0
  refine w_cons (w_set 5 sc_parting.nd rfl (.inl rfl) (.inl rfl) ?_)
  refine w_int ?_
  -- while at < len(waiting):
  refine w_cons (w_while (fun mm ρ' μ' => ∃ (n : Nat) (W : List Ent), mm = m.rooms.length * m.rooms.length - n ∧ n ≤ W.length ∧ QI m (a, b) W n 0 ∧ μ' = (q, .dt (metT W)) :: (p_waiting, .lst (W.map entD)) :: μ ∧ ∃ x6 x7 x8 x9 x10, ρ' = [some (machD m), some (.int a), some (.int b), some (.ptr p_waiting), some (.ptr q), some (.int n), x6, x7, x8, x9, x10]) (m.rooms.length * m.rooms.length) ⟨0, [((a, b), [])], rfl, Nat.zero_le _, qi_start hp, rfl, _, _, _, _, _, rfl⟩ (fun mm ρ' μ' hI => ?_) PassesOwn.never)
  -- WHILE
  obtain ⟨n, W, rfl, hn, hW, rfl, x6, x7, x8, x9, x10, rfl⟩ := hI
  have hWl := hW.le
  refine wt_cmp ?_
  refine w_name 5 rfl (.inl rfl) rfl ?_
  refine w_callB (id := "len") T.b_len ?_
  refine wa_cons ?_
  refine w_name 3 rfl (.inl rfl) rfl ?_
  refine wa_nil ?_
  refine c_lenP 1 rfl ?_
  rw [List.length_map]
  walk_at "Lt"
  refine ⟨_, rfl, ?_⟩
  refine ⟨fun hb => ?_, fun hb => ?_⟩
  · -- (here, there), row = waiting[at]
    refine w_cons (w_asg ?_)
    refine w_ix ?_
    refine w_name 3 rfl (.inl rfl) rfl ?_
    refine w_name 5 rfl (.inl rfl) rfl ?_
    have hnl : n < W.length := by have := of_decide_eq_true hb; omega
    obtain ⟨c, hc⟩ : ∃ c, W[n]? = some c := ⟨_, List.getElem?_eq_getElem hnl⟩
    have hcok := hW.ok c (List.mem_of_getElem? hc)
    obtain ⟨⟨ca, cb⟩, cw⟩ := c
    obtain ⟨hcp, hca, hcg, hcl⟩ := hcok
    have hcl : cw.length < W.length := hcl
    refine ix_ptrD 1 rfl n rfl (by rw [List.getElem?_map, hc]; rfl) ?_
    refine wg_tup rfl rfl ?_
    refine wgs_cons ?_
    refine wg_tup rfl rfl ?_
    refine wgs_cons ?_
    refine wg_name 6 sc_parting.nd rfl (.inl rfl) (.inl rfl) ?_
    refine wgs_cons ?_
    refine wg_name 7 sc_parting.nd rfl (.inl rfl) (.inl rfl) ?_
    refine wgs_nil ?_
    refine wgs_cons ?_
    refine wg_name 8 sc_parting.nd rfl (.inl rfl) (.inl rfl) ?_
    refine wgs_nil ?_
    -- at = at + 1
    refine w_cons (w_set 5 sc_parting.nd rfl (.inl rfl) (.inl rfl) ?_)
    refine w_bin ?_
    refine w_name 5 rfl (.inl rfl) rfl ?_
    refine w_int ?_
    walk_at "Add"
    -- for ask in range(machine[0]):
    refine w_cons (w_for ?_ PassesOwn.never rfl)
    refine wi_rng1 T.b_range ?_
    refine w_ix ?_
    refine w_name 0 rfl (.inl rfl) rfl ?_
    refine w_int ?_
    refine ix_tupD 0 rfl rfl ?_
    refine ⟨_, rfl, by have := hm.a4; omega, ?_⟩
    refine ⟨fun j ρ' μ' => ∃ W', QI m (a, b) W' n j ∧ W'[n]? = some ((ca, cb), cw) ∧ μ' = (q, .dt (metT W')) :: (p_waiting, .lst (W'.map entD)) :: μ ∧ ∃ y9 y10, ρ' = [some (machD m), some (.int a), some (.int b), some (.ptr p_waiting), some (.ptr q), some (.int (n + 1 : Nat)), some (.int ca), some (.int cb), some (rowD cw), y9, y10], ⟨W, hW, hc, rfl, _, _, rfl⟩, ?_, ?_⟩
    · rintro j x ρ' μ' hx ⟨W', hW', hc', rfl, y9, y10, rfl⟩
      obtain ⟨hj, rfl⟩ := rngD_get hx
      rw [toNat_natCast'] at hj
      rw [Int.zero_add (j : Int)]
      have hWl' := hW'.le
      have hcw : rowD (cw ++ [j]) = .tup (cw.map (fun a : Nat => D.int a) ++ [.int j]) := by
        show D.tup ((cw ++ [j]).map _) = _
        rw [List.map_append]
        rfl
      refine wg_name 9 sc_parting.nd rfl (.inl rfl) (.inl rfl) ?_
      -- if are_unlike(machine, here, there, ask):
      refine w_cons (w_if ?_)
      refine wt_val ?_
      refine w_callG G_are_unlike hr ?_
      refine wa_cons ?_
      refine w_name 0 rfl (.inl rfl) rfl ?_
      refine wa_cons ?_
      refine w_name 6 rfl (.inl rfl) rfl ?_
      refine wa_cons ?_
      refine w_name 7 rfl (.inl rfl) rfl ?_
      refine wa_cons ?_
      refine w_name 9 rfl (.inl rfl) rfl ?_
      refine wa_nil ?_
      refine ⟨m, most, ca, cb, j, rfl, hm, hcp, hj, ?_⟩
      refine ⟨_, rfl, ?_⟩
      refine ⟨fun hb => ?_, fun hb => ?_⟩
      · -- return row + (ask,)
        refine w_cons (w_ret (w_dr ?_))
        refine w_bin ?_
        refine w_name 8 rfl (.inl rfl) rfl ?_
        refine w_tup ?_
        refine wa_cons ?_
        refine w_name 9 rfl (.inl rfl) rfl ?_
        refine wa_nil ?_
        refine ⟨by simp, ?_⟩
        refine o_addT (by rw [List.length_map]; show cw.length + 1 ≤ _; omega) ?_
        rw [← hcw]
        exact ⟨μ, .cons _ (List.sublist_cons_self _ _), kq (some (cw ++ [j])) ⟨qi_best hm hW' hj hc' hb, by rw [List.length_append]; show cw.length + 1 ≤ _; omega⟩⟩
      refine w_nil ?_
      -- later = both_go(machine, here, there, ask)
      refine w_cons (w_set 10 sc_parting.nd rfl (.inl rfl) (.inl rfl) ?_)
      refine w_callG G_both_go hr ?_
      refine wa_cons ?_
      refine w_name 0 rfl (.inl rfl) rfl ?_
      refine wa_cons ?_
      refine w_name 6 rfl (.inl rfl) rfl ?_
      refine wa_cons ?_
      refine w_name 7 rfl (.inl rfl) rfl ?_
      refine wa_cons ?_
      refine w_name 9 rfl (.inl rfl) rfl ?_
      refine wa_nil ?_
      refine ⟨m, most, ca, cb, j, rfl, hm, hcp, hj, ?_⟩
      -- if later is not None and later not in met:
      refine w_cons (w_if ?_)
      refine wt_b ((newB W' (bothF m (ca, cb) j))) ?_ ?_
      · refine wt_w ?_
        refine ww_and ?_
        refine wt_cmp ?_
        refine w_name 10 rfl (.inl rfl) rfl ?_
        refine w_non ?_
        walk_at "IsNot"
        refine ⟨_, rfl, ?_⟩
        refine ⟨fun hb0 => ?_, fun hb0 => ⟨(by rw [po_none hb0]; rfl), rfl⟩⟩
        refine ww_and1 ?_
        refine wt_tnin hu ?_
        refine w_name 10 rfl (.inl rfl) rfl ?_
        refine w_name 4 rfl (.inl rfl) rfl ?_
        obtain ⟨g, hg⟩ := po_some hb0
        rw [hg]
        refine ⟨q, 0, _, pk g, rfl, rfl, rfl, ?_⟩
        rw [met_val]
        exact ⟨(by rfl), rfl⟩
      refine ⟨fun hb => ?_, fun hb => ?_⟩
      · -- met[later] = True
        refine w_cons (w_tput hu ?_)
        refine w_bl ?_
        refine w_name 4 rfl (.inl rfl) rfl ?_
        refine w_name 10 rfl (.inl rfl) rfl ?_
        obtain ⟨g, hg⟩ : ∃ g, bothF m (ca, cb) j = some g := by
          cases e : bothF m (ca, cb) j with
          | none => rw [e] at hb; cases hb
          | some g => exact ⟨g, rfl⟩
        rw [hg] at hb
        obtain ⟨hno, hval⟩ := new_no hb
        rw [hg]
        refine ⟨q, 0, _, pk g, rfl, rfl, rfl, by unfold metT; rw [List.length_map]; omega, ?_⟩
        rw [putD_new hval]
        -- waiting.append((later, row + (ask,)))
        refine w_cons (w_expr ?_)
        refine w_append ?_
        refine w_name 3 rfl (.inl rfl) rfl ?_
        refine ⟨.inl ⟨rfl, 1, _, rfl⟩, ?_⟩
        refine wa_cons ?_
        refine w_tup ?_
        refine wa_cons ?_
        refine w_name 10 rfl (.inl rfl) rfl ?_
        refine wa_cons ?_
        refine w_bin ?_
        refine w_name 8 rfl (.inl rfl) rfl ?_
        refine w_tup ?_
        refine wa_cons ?_
        refine w_name 9 rfl (.inl rfl) rfl ?_
        refine wa_nil ?_
        refine ⟨by simp, ?_⟩
        refine o_addT (by rw [List.length_map]; show cw.length + 1 ≤ _; omega) ?_
        rw [← hcw]
        refine wa_nil ?_
        refine ⟨by simp, ?_⟩
        refine wa_nil ?_
        refine m_append 1 rfl (by rw [List.length_map]; omega) ?_
        refine w_nil ?_
        refine w_nil ?_
        have hb' : unlB m (ca, cb) j = false := by assumption
        refine ⟨W' ++ [(g, cw ++ [j])], qi_new hm hW' hj hc' hb' hg hno, ?_, ?_, _, _, rfl⟩
        · rw [List.getElem?_append_left (List.getElem?_eq_some_iff.mp hc').1]
          exact hc'
        · have e1 : metT (W' ++ [(g, cw ++ [j])]) = metT W' ++ [(pk g, .bl true)] := by unfold metT; rw [List.map_append]; rfl
          have e2 : (W' ++ [(g, cw ++ [j])]).map entD = W'.map entD ++ [.tup [pairD g, rowD (cw ++ [j])]] := by rw [List.map_append]; rfl
          rw [e1, e2]
          rfl
      · refine w_nil ?_
        refine w_nil ?_
        have hb' : unlB m (ca, cb) j = false := by assumption
        refine ⟨W', qi_none hW' hc' hb' fun g hg => ?_, hc', rfl, _, _, rfl⟩
        have hg : bothF m (ca, cb) j = some g := hg
        rw [hg] at hb
        exact new_old hb
    rintro ρ' μ' ⟨W', hW', hc', rfl, y9, y10, rfl⟩
    rw [rngD_len, toNat_natCast'] at hW'
    refine w_nil ?_
    exact ⟨m.rooms.length * m.rooms.length - (n + 1), by omega, n + 1, W', rfl, (List.getElem?_eq_some_iff.mp hc').1, qi_next hW', rfl, _, _, _, _, _, rfl⟩
  -- return None
  refine w_cons (w_ret (w_dr ?_))
  refine w_non ?_
  exact ⟨μ, .cons _ (List.sublist_cons_self _ _), kq none (qi_end hm hW (List.getElem?_eq_none_iff.mpr (by have := of_decide_eq_false hb; omega)))⟩
end
end L09

namespace L09
open PySem PySem.Spec L2 Oc
open Evl (Ex)
local macro_rules | `(tactic| walk_at "s") => `(tactic| first | assumption | omega | decide | (simp only [] at *; omega))
local macro_rules | `(tactic| walk_at "Add") => `(tactic| first | refine o_add ?_ | refine o_addS (by walk_at "s") ?_ | refine o_addT (by walk_at "s") ?_ | refine o_addL (by walk_at "s") ?_)
local macro_rules | `(tactic| walk_at "Sub") => `(tactic| refine o_sub ?_)
local macro_rules | `(tactic| walk_at "Mult") => `(tactic| refine o_mul (by walk_at "s") ?_)
local macro_rules | `(tactic| walk_at "Mod") => `(tactic| first | refine o_mod (by walk_at "s") ?_)
local macro_rules | `(tactic| walk_at "FloorDiv") => `(tactic| first | refine o_div (by walk_at "s") ?_)
local macro_rules | `(tactic| walk_at "Pow") => `(tactic| refine o_pow (by walk_at "s") ?_)
local macro_rules | `(tactic| walk_at "LShift") => `(tactic| refine o_shl (by walk_at "s") ?_)
local macro_rules | `(tactic| walk_at "RShift") => `(tactic| refine o_shr (by walk_at "s") ?_)
local macro_rules | `(tactic| walk_at "BitAnd") => `(tactic| refine o_band ?_)
local macro_rules | `(tactic| walk_at "BitXor") => `(tactic| refine o_bxor ?_)
local macro_rules | `(tactic| walk_at "BitOr") => `(tactic| refine o_bor ?_)
local macro_rules | `(tactic| walk_at "Lt") => `(tactic| refine o_lt ?_)
local macro_rules | `(tactic| walk_at "LtE") => `(tactic| refine o_le ?_)
local macro_rules | `(tactic| walk_at "Gt") => `(tactic| refine o_gt ?_)
local macro_rules | `(tactic| walk_at "GtE") => `(tactic| refine o_ge ?_)
local macro_rules | `(tactic| walk_at "Eq") => `(tactic| refine o_eq (by rfl) ?_)
local macro_rules | `(tactic| walk_at "NotEq") => `(tactic| refine o_ne (by rfl) ?_)
local macro_rules | `(tactic| walk_at "Is") => `(tactic| refine o_isN ?_)
local macro_rules | `(tactic| walk_at "IsNot") => `(tactic| refine o_notN ?_)
local macro_rules | `(tactic| walk_at "In") => `(tactic| refine o_in (by first | exact .inl rfl | exact .inr (.inl rfl) | exact .inr (.inr rfl)) (by rfl) (by rfl) ?_)
local macro_rules | `(tactic| walk_at "NotIn") => `(tactic| refine o_nin (by first | exact .inl rfl | exact .inr (.inl rfl) | exact .inr (.inr rfl)) (by rfl) (by rfl) ?_)
local macro_rules | `(tactic| walk_at "c_abs") => `(tactic| refine c_abs ?_)
local macro_rules | `(tactic| walk_at "c_len") => `(tactic| first | refine c_lenL ?_ | refine c_lenC ?_ | refine c_lenT ?_ | refine c_lenS (by walk_at "s") ?_ | refine c_lenP 0 (by first | assumption | rfl) ?_)
local macro_rules | `(tactic| walk_at "c_str") => `(tactic| refine c_str (by walk_at "s") ?_)
local macro_rules | `(tactic| walk_at "c_isinstance") => `(tactic| refine c_isi rfl (by rfl) ?_)
local macro_rules | `(tactic| walk_at "sl") => `(tactic| first | refine sd_tup ?_ | refine sd_lst ?_)
local macro_rules | `(tactic| walk_at "c_tuple") => `(tactic| first | refine c_tupL ?_ | refine c_tupP 0 (by first | assumption | rfl) ?_ | refine c_tupT ?_)
local macro_rules | `(tactic| walk_at "c_int") => `(tactic| first | refine c_intB ?_)
local macro_rules | `(tactic| walk_at "USub") => `(tactic| refine u_neg ?_)
local macro_rules | `(tactic| walk_at "pen") => `(tactic| first | assumption | exact get_set (by assumption) | exact get_set (get_set (by assumption)) | exact get_here | (apply get_cons; walk_at "pen") | (apply get_app; walk_at "pen"))
local macro_rules | `(tactic| walk_at "mu") => `(tactic| simp only [List.set_cons_succ, List.set_set, List.set_cons_zero])
/-! ### the table from behind: the walk -/
def ovV : Option Nat → V
  | none => .non
  | some n => .int n
theorem fls_po (x y : Option Nat) : D.fls [optD x, optD y] = some [ovV x, ovV y] := by cases x <;> cases y <;> rfl
theorem inv_po (x y : Option Nat) : inV .non [ovV x, ovV y] = (bothC x y).isNone := by cases x <;> cases y <;> rfl
theorem here_zero (m : Mach) : hereL m 0 = [] := by
  unfold hereL
  rw [List.filter_eq_nil_iff]
  intro p _
  show ¬ (false && _) = true
  rw [Bool.false_and]
  exact Bool.false_ne_true
theorem far_one (m : Mach) : farL m 1 = [] := by
  show [] ++ (hereL m 0).map _ = _
  rw [here_zero]
  rfl
theorem farT_one (m : Mach) : farT m 1 = [] := by unfold farT; rw [far_one]; rfl
theorem far_fresh {m : Mach} {L i : Nat} {p : Pair} (h : (hereL m L)[i]? = some p) : ∀ e ∈ farL m L ++ ((hereL m L).take i).map (fun p => (p, L)), e.1 ≠ p := by
  have hp := (mem_here.mp (List.mem_of_getElem? h)).2
  intro e he e2
  subst e2
  rcases List.mem_append.mp he with he | he
  · obtain ⟨_, h2, h3⟩ := mem_far.mp he
    have := ds_uniq h2 hp
    omega
  · obtain ⟨p', hp', rfl⟩ := List.mem_map.mp he
    have nd : ((hereL m L).take (i + 1)).Nodup := (List.Pairwise.filter _ (pairs_nodup m)).sublist (List.take_sublist _ _)
    rw [filter_next h, List.nodup_append] at nd
    exact nd.2.2 _ hp' _ List.mem_cons_self rfl
theorem farT_put {m : Mach} {L i : Nat} {p : Pair} (h : (hereL m L)[i]? = some p) :
    putD ((farL m L ++ ((hereL m L).take i).map fun p => (p, L)).map fun e => (pk e.1, D.int (e.2 : Nat))) (pk p) (.int L) = (farL m L ++ ((hereL m L).take (i + 1)).map fun p => (p, L)).map fun e => (pk e.1, D.int (e.2 : Nat)) := by
  rw [putD_new (valD_none (f := fun e : Pair × Nat => pk e.1) (g := fun e => D.int (e.2 : Nat)) fun e he e2 => far_fresh h e he (pk_inj e2)), filter_next h, List.map_append (l₁ := (hereL m L).take i), ← List.append_assoc, List.map_append (l₁ := farL m L ++ _)]
  rfl
theorem far_get {m : Mach} {L n : Nat} {p : Pair} (hp : PIn m p) (hW : Whole m L) (hn : 0 < n) : ∃ d : Nat, (valD (farT m L) (pk p)).getD (.int 0) = .int d ∧ (d = n ↔ dsB m n p = true) := by
  by_cases h : ∃ j, dsB m j p = true
  · obtain ⟨j, hj⟩ := h
    rw [far_val hp hj (hW j p hp hj)]
    exact ⟨j, rfl, fun e => e ▸ hj, fun e => ds_uniq hj e⟩
  · rw [far_no fun j _ => by
      cases e : dsB m j p with
      | false => rfl
      | true => exact absurd ⟨j, e⟩ h]
    exact ⟨0, rfl, fun e => by omega, fun e => absurd ⟨n, e⟩ h⟩
theorem first_next {m : Mach} {n k : Nat} {p q : Pair} (hk : (List.range m.asks).find? (okK m (n + 1) p) = some k) (hb : bothF m p k = some q) : firstF m (n + 2) p = k :: firstF m (n + 1) q := by
  show (match (List.range m.asks).find? (okK m (n + 1) p) with | some k => k :: ((bothF m p k).map (firstF m (n + 1))).getD [] | none => []) = _
  rw [hk]
  show k :: ((bothF m p k).map (firstF m (n + 1))).getD [] = _
  rw [hb]
  rfl
theorem first_last {m : Mach} {k : Nat} {p : Pair} (hk : (List.range m.asks).find? (unlB m p) = some k) : firstF m 1 p = [k] := by
  show ((List.range m.asks).find? (unlB m p)).toList = _
  rw [hk]
  rfl
def S_far : FS := fun ds μ Φ => ∃ (m : Mach) (most : Nat), ds = [machD m] ∧ m.Ok most ∧ most ≤ 100 ∧ ∀ L q, Whole m L → L ≤ 10001 → Φ (.ptr q) ((q, .dt (farT m L)) :: μ)
section
variable {P : Program} {w : World} {K : PySem.W.Frag} {mg : Str → Option Value} {base : Heap}
theorem ok_lunl (B : Src K mg "_law_unlike" s__law_unlike ["_law_machine_here", "_law_one", "_law_other", "_law_ask"]) (T : Tx mg) : KnG P w K mg base 1 "_law_unlike" ["_law_machine_here", "_law_one", "_law_other", "_law_ask"] S_unl := by
  refine kn_ofG B sc__law_unlike (fun ds μ Φ h => by obtain ⟨_, _, _, _, _, rfl, _⟩ := h; rfl) fun f cdv A outer s H E grd hr ds μ Φ h => ?_
  obtain ⟨m, most, a, b, kk, rfl, hm, ⟨ha, hb⟩, hk, q⟩ := h
  obtain ⟨g1, g2, _⟩ := mach_at hm ha hk
  obtain ⟨g3, g4, _⟩ := mach_at hm hb hk
  have e : unlB m (a, b) kk = unlC (m.cell a kk).2 (m.cell b kk).2 := rfl
  rw [e] at q
  -- _law_first_here = _law_machine_here[1][_law_one][_law_ask][1]
  refine w_cons (w_set 4 sc__law_unlike.nd rfl (.inl rfl) (.inl rfl) ?_)
  refine w_ix ?_
  refine w_ix ?_
  refine w_ix ?_
  refine w_ix ?_
  refine w_name 0 rfl (.inl rfl) rfl ?_
  refine w_int ?_
  refine ix_tupD 1 rfl rfl ?_
  refine w_name 1 rfl (.inl rfl) rfl ?_
  refine ix_tupD a rfl g1 ?_
  refine w_name 3 rfl (.inl rfl) rfl ?_
  refine ix_tupD kk rfl g2 ?_
  refine w_int ?_
  refine ix_tupD 1 rfl rfl ?_
  -- _law_second = _law_machine_here[1][_law_other][_law_ask][1]
  refine w_cons (w_set 5 sc__law_unlike.nd rfl (.inl rfl) (.inl rfl) ?_)
  refine w_ix ?_
  refine w_ix ?_
  refine w_ix ?_
  refine w_ix ?_
  refine w_name 0 rfl (.inl rfl) rfl ?_
  refine w_int ?_
  refine ix_tupD 1 rfl rfl ?_
  refine w_name 2 rfl (.inl rfl) rfl ?_
  refine ix_tupD b rfl g3 ?_
  refine w_name 3 rfl (.inl rfl) rfl ?_
  refine ix_tupD kk rfl g4 ?_
  refine w_int ?_
  refine ix_tupD 1 rfl rfl ?_
  generalize (m.cell a kk).2 = x at q
  generalize (m.cell b kk).2 = y at q
  -- return _law_first_here is not None and _law_second is not None and (_law_first_here != _law_second)
  refine w_cons (w_ret ?_)
  refine w_andV ?_
  refine w_cmp ?_
  refine w_name 4 rfl (.inl rfl) rfl ?_
  refine w_non ?_
  walk_at "IsNot"
  refine ⟨_, rfl, fun hb0 => ?_, fun hb0 => ?_⟩
  rotate_left
  · rw [is_non hb0] at q
    exact q
  obtain ⟨x, rfl⟩ := not_non hb0
  refine w_andV ?_
  refine w_cmp ?_
  refine w_name 5 rfl (.inl rfl) rfl ?_
  refine w_non ?_
  walk_at "IsNot"
  refine ⟨_, rfl, fun hb1 => ?_, fun hb1 => ?_⟩
  rotate_left
  · rw [is_non hb1] at q
    exact q
  obtain ⟨y, rfl⟩ := not_non hb1
  refine w_andV1 ?_
  refine w_cmp ?_
  refine w_name 4 rfl (.inl rfl) rfl ?_
  refine w_name 5 rfl (.inl rfl) rfl ?_
  refine o_ne (by rfl) ?_
  rw [← unl_eq] at q
  exact q
theorem ok_lboth (B : Src K mg "_law_both" s__law_both ["_law_machine_here", "_law_one", "_law_other", "_law_ask"]) (T : Tx mg) : KnG P w K mg base 1 "_law_both" ["_law_machine_here", "_law_one", "_law_other", "_law_ask"] S_both := by
  refine kn_ofG B sc__law_both (fun ds μ Φ h => by obtain ⟨_, _, _, _, _, rfl, _⟩ := h; rfl) fun f cdv A outer s H E grd hr ds μ Φ h => ?_
  obtain ⟨m, most, a, b, kk, rfl, hm, ⟨ha, hb⟩, hk, q⟩ := h
  obtain ⟨g1, g2, _⟩ := mach_at hm ha hk
  obtain ⟨g3, g4, _⟩ := mach_at hm hb hk
  have e : bothF m (a, b) kk = bothC (m.cell a kk).1 (m.cell b kk).1 := rfl
  rw [e] at q
  -- _law_pair = (_law_machine_here[1][_law_one][_law_ask][0], _law_machine_here[1][_law_other][_law_ask][0])
  refine w_cons (w_set 4 sc__law_both.nd rfl (.inl rfl) (.inl rfl) ?_)
  refine w_tup ?_
  refine wa_cons ?_
  refine w_ix ?_
  refine w_ix ?_
  refine w_ix ?_
  refine w_ix ?_
  refine w_name 0 rfl (.inl rfl) rfl ?_
  refine w_int ?_
  refine ix_tupD 1 rfl rfl ?_
  refine w_name 1 rfl (.inl rfl) rfl ?_
  refine ix_tupD a rfl g1 ?_
  refine w_name 3 rfl (.inl rfl) rfl ?_
  refine ix_tupD kk rfl g2 ?_
  refine w_int ?_
  refine ix_tupD 0 rfl rfl ?_
  refine wa_cons ?_
  refine w_ix ?_
  refine w_ix ?_
  refine w_ix ?_
  refine w_ix ?_
  refine w_name 0 rfl (.inl rfl) rfl ?_
  refine w_int ?_
  refine ix_tupD 1 rfl rfl ?_
  refine w_name 2 rfl (.inl rfl) rfl ?_
  refine ix_tupD b rfl g3 ?_
  refine w_name 3 rfl (.inl rfl) rfl ?_
  refine ix_tupD kk rfl g4 ?_
  refine w_int ?_
  refine ix_tupD 0 rfl rfl ?_
  refine wa_nil ?_
  refine ⟨by simp, ?_⟩
  generalize (m.cell a kk).1 = x at q
  generalize (m.cell b kk).1 = y at q
  -- if None in _law_pair:
  refine w_cons (w_if ?_)
  refine wt_cmp ?_
  refine w_non ?_
  refine w_name 4 rfl (.inl rfl) rfl ?_
  refine o_in (.inl rfl) (w := .non) rfl (fls_po x y) ?_
  rw [inv_po]
  refine ⟨_, rfl, ?_⟩
  refine ⟨fun hb => ?_, fun hb => ?_⟩
  · -- return None
    refine w_cons (w_ret ?_)
    refine w_non ?_
    have e : bothC x y = none := by simpa using hb
    rw [e] at q
    exact q
  refine w_nil ?_
  -- return _law_pair
  refine w_cons (w_ret ?_)
  refine w_name 4 rfl (.inl rfl) rfl ?_
  revert hb q
  cases x <;> cases y <;> intro q hb <;> first | exact q | cases hb
theorem ok_far (B : Src K mg "_law_far" s__law_far ["_law_machine_here"]) (T : Tx mg) (G__law_unlike : KnG P w K mg base 1 "_law_unlike" ["_law_machine_here", "_law_one", "_law_other", "_law_ask"] S_unl) (G__law_both : KnG P w K mg base 1 "_law_both" ["_law_machine_here", "_law_one", "_law_other", "_law_ask"] S_both) : KnG P w K mg base 2 "_law_far" ["_law_machine_here"] S_far := by
  refine kn_ofG B sc__law_far (fun ds μ Φ h => by obtain ⟨_, _, rfl, _⟩ := h; rfl) fun f cdv A outer s H E grd hr ds μ Φ h => ?_
  obtain ⟨m, most, rfl, hm, hmost, kq⟩ := h
  have hu := hu_of hr.r
  have hn100 : m.rooms.length ≤ 100 := Nat.le_trans hm.rm hmost
  have hN : m.rooms.length * m.rooms.length ≤ 100 * 100 := Nat.mul_le_mul hn100 hn100
  have ha4 := hm.a4
  have hpl : (pairsN m).length = m.rooms.length * m.rooms.length := by unfold pairsN; rw [List.length_map, List.length_range]
  have hfull : ∀ n : Nat, (List.range n).take (rngD 0 ((n : Nat) : Int).toNat).length = List.range n := fun n => List.take_of_length_le (by rw [rngD_len, List.length_range, toNat_natCast']; exact Nat.le_refl _)
  have hflen := far_len m
  -- _law_many = len(_law_machine_here[1])
  refine w_cons (w_set 1 sc__law_far.nd rfl (.inr rfl) (.inl rfl) ?_)
  refine w_callB (id := "len") T.b_len ?_
  refine wa_cons ?_
  refine w_ix ?_
  refine w_name 0 rfl (.inr (.inl rfl)) rfl ?_
  refine w_int ?_
  refine ix_tupD 1 rfl rfl ?_
  refine wa_nil ?_
  walk_at "c_len"
  rw [List.length_map]
  -- _law_pairs = [(_law_k // _law_many, _law_k % _law_many) for _law_k in range(_law_many * _law_many)]
  refine w_cons (w_setLc (own := [("_law_k", 3)]) 2 (.one 3) (by decide) rfl sc__law_far.nd rfl rfl (blkOk_by (N := N__law_far) (sc := defScope s__law_far) (by decide +kernel)) (sw_true rfl rfl rfl (by decide +kernel)) (fun _ _ _ _ _ => pg_name (i := 3) sc__law_far.nd rfl (by first | exact .inl rfl | exact .inr rfl)) ?_)
  refine wi_rng1 T.b_range ?_
  refine w_bin ?_
  refine w_name 1 rfl (.inr (.inl rfl)) rfl ?_
  refine w_name 1 rfl (.inr (.inl rfl)) rfl ?_
  refine o_mul (.inl ⟨by omega, by omega⟩) ?_
  rw [mul_cast]
  refine ⟨_, rfl, by omega, ?_⟩
  refine ⟨by rw [rngD_len, toNat_natCast']; omega, fun t acc μ2 => acc = ((List.range (m.rooms.length * m.rooms.length)).take t).map (fun k => pairD (k / m.rooms.length, k % m.rooms.length)) ∧ μ2 = μ, ⟨rfl, rfl⟩, ?_, ?_⟩
  · rintro p2 t x acc μ2 hx ⟨rfl, rfl⟩
    obtain ⟨ht, rfl⟩ := rngD_get hx
    rw [toNat_natCast'] at ht
    rw [Int.zero_add (t : Int)]
    have htr : (List.range (m.rooms.length * m.rooms.length))[t]? = some t := List.getElem?_range ht
    have hr0 := hm.r0
    refine ⟨_, rfl, fun _ _ _ _ _ => ?_⟩
    refine ⟨fun _ _ _ _ _ _ => ?_, fun hb => (nomatch hb)⟩
    refine w_tup ?_
    refine wa_cons ?_
    refine w_bin ?_
    refine w_name 3 rfl (.inl rfl) rfl ?_
    refine w_name 1 rfl (.inr (.inl rfl)) rfl ?_
    refine o_div ⟨by omega, by omega⟩ ?_
    refine wa_cons ?_
    refine w_bin ?_
    refine w_name 3 rfl (.inl rfl) rfl ?_
    refine w_name 1 rfl (.inr (.inl rfl)) rfl ?_
    refine o_mod (by omega) ?_
    refine wa_nil ?_
    refine ⟨by simp, ?_⟩
    refine ⟨_, rfl, ?_⟩
    exact ⟨tm_next (g := fun k => pairD (k / m.rooms.length, k % m.rooms.length)) htr, rfl⟩
  rintro p2 acc μ2 ⟨rfl, rfl⟩
  rw [hfull]
  have epr : (List.range (m.rooms.length * m.rooms.length)).map (fun k => pairD (k / m.rooms.length, k % m.rooms.length)) = (pairsN m).map pairD := by
    unfold pairsN
    rw [List.map_map]
    rfl
  rw [epr]
  refine ⟨_, _, _, rfl, rfl, .inl ?_⟩
  -- _law_found = {}
  refine w_cons (w_set 4 sc__law_far.nd rfl (.inr rfl) (.inl rfl) ?_)
  refine w_dnewT fun q => ?_
  -- _law_here = []
  refine w_cons (w_set 5 sc__law_far.nd rfl (.inl rfl) (.inl rfl) ?_)
  refine w_lstM ?_
  refine wa_nil ?_
  refine ⟨by simp, fun p_here => ?_⟩
  -- for _law_one, _law_other in _law_pairs:
  refine w_cons (w_for ?_ PassesOwn.never rfl)
  refine wi_lst ?_
  refine w_name 2 rfl (.inl rfl) rfl ?_
  refine ⟨_, rfl, ?_⟩
  refine ⟨fun i ρ' μ' => μ' = (p_here, .lst ((((pairsN m).take i).filter (dsB m 1)).map pairD)) :: (q, .dt []) :: μ2 ∧ ∃ x3 x6 x7 x8 x9 x10 x11 x12, ρ' = [some (machD m), some (.int m.rooms.length), some (.lst ((pairsN m).map pairD)), x3, some (.ptr q), some (.ptr p_here), x6, x7, x8, x9, x10, x11, x12], ⟨rfl, _, _, _, _, _, _, _, _, rfl⟩, ?_, ?_⟩
  · rintro i x ρ' μ' hx ⟨rfl, x3, x6, x7, x8, x9, x10, x11, x12, rfl⟩
    obtain ⟨p, hp, rfl⟩ := map_get hx
    have hpin := mem_pairs.mp (List.mem_of_getElem? hp)
    have hil := (List.getElem?_eq_some_iff.mp hp).1
    refine wg_tup rfl rfl ?_
    refine wgs_cons ?_
    refine wg_name 6 sc__law_far.nd rfl (.inr rfl) (.inl rfl) ?_
    refine wgs_cons ?_
    refine wg_name 7 sc__law_far.nd rfl (.inr rfl) (.inl rfl) ?_
    refine wgs_nil ?_
    -- if any([_law_unlike(_law_machine_here, _law_one, _law_other, _law_ask) for _law_ask in range(_law_machine_here[0])]):
    refine w_cons (w_if ?_)
    refine wt_val ?_
    refine w_callB (id := "any") T.b_any ?_
    refine wa_cons ?_
    -- comp [_law_unlike(_law_machine_here, _law_one, _law_other, _law_ask) for _law_ask in range(_law_machine_here[0])]
    refine w_fz (w_lcM (own := [("_law_ask", 8)]) (.one 8) (by decide) rfl sc__law_far.nd (blkOk_by (N := N__law_far) (sc := defScope s__law_far) (by decide +kernel)) (fun _ _ _ _ _ => pg_name (i := 8) sc__law_far.nd rfl (by first | exact .inl rfl | exact .inr rfl)) ?_)
    refine wi_rng1 T.b_range ?_
    refine w_ix ?_
    refine w_name 0 rfl (.inr (.inl rfl)) rfl ?_
    refine w_int ?_
    refine ix_tupD 0 rfl rfl ?_
    refine ⟨_, rfl, by omega, ?_⟩
    refine ⟨by rw [rngD_len]; omega, fun t acc μ3 => acc = ((List.range m.asks).take t).map (fun k => D.bl (unlB m p k)) ∧ μ3 = (p_here, .lst ((((pairsN m).take i).filter (dsB m 1)).map pairD)) :: (q, .dt []) :: μ2, ⟨rfl, rfl⟩, ?_, ?_⟩
    · rintro p3 t x acc μ3 hx2 ⟨rfl, rfl⟩
      obtain ⟨ht, rfl⟩ := rngD_get hx2
      rw [toNat_natCast'] at ht
      rw [Int.zero_add (t : Int)]
      have htr : (List.range m.asks)[t]? = some t := List.getElem?_range ht
      refine ⟨_, rfl, fun _ _ _ _ _ => ?_⟩
      refine ⟨fun _ _ _ _ _ _ => ?_, fun hb => (nomatch hb)⟩
      refine w_callG G__law_unlike hr ?_
      refine wa_cons ?_
      refine w_name 0 rfl (.inr (.inl rfl)) rfl ?_
      refine wa_cons ?_
      refine w_name 6 rfl (.inr (.inl rfl)) rfl ?_
      refine wa_cons ?_
      refine w_name 7 rfl (.inr (.inl rfl)) rfl ?_
      refine wa_cons ?_
      refine w_name 8 rfl (.inl rfl) rfl ?_
      refine wa_nil ?_
      refine ⟨m, most, p.1, p.2, t, rfl, hm, hpin, ht, ?_⟩
      refine ⟨_, rfl, ?_⟩
      exact ⟨tm_next (g := fun k => D.bl (unlB m p k)) htr, rfl⟩
    rintro p3 acc μ3 ⟨rfl, rfl⟩
    rw [hfull, show (List.range m.asks).map (fun k => D.bl (unlB m p k)) = ((List.range m.asks).map (unlB m p)).map D.bl from by rw [List.map_map]; rfl]
    refine ⟨0, _, _, rfl, rfl, ?_⟩
    refine wa_nil ?_
    refine c_anyL ?_
    have eany : ((List.range m.asks).map (unlB m p)).any id = dsB m 1 p := by rw [List.any_map, ds_one]; rfl
    rw [eany]
    refine ⟨_, rfl, ?_⟩
    refine ⟨fun hb => ?_, fun hb => ?_⟩
    · -- _law_here.append((_law_one, _law_other))
      refine w_cons (w_expr ?_)
      refine w_append ?_
      refine w_name 5 rfl (.inl rfl) rfl ?_
      refine ⟨.inl ⟨rfl, 0, _, rfl⟩, ?_⟩
      refine wa_cons ?_
      refine w_tup ?_
      refine wa_cons ?_
      refine w_name 6 rfl (.inr (.inl rfl)) rfl ?_
      refine wa_cons ?_
      refine w_name 7 rfl (.inr (.inl rfl)) rfl ?_
      refine wa_nil ?_
      refine ⟨by simp, ?_⟩
      refine wa_nil ?_
      refine m_append 0 rfl (Nat.lt_of_le_of_lt (by rw [List.length_map]; exact Nat.le_trans (List.length_filter_le _ _) (List.length_take_le _ _)) (show i < 1000000 by omega)) ?_
      refine w_nil ?_
      refine w_nil ?_
      refine ⟨?_, _, _, _, _, _, _, _, _, rfl⟩
      rw [← fm_yes hp hb]
      rfl
    · refine w_nil ?_
      refine w_nil ?_
      refine ⟨?_, _, _, _, _, _, _, _, _, rfl⟩
      rw [← fm_no hp hb]
      rfl
  rintro ρ' μ' ⟨rfl, x3, x6, x7, x8, x9, x10, x11, x12, rfl⟩
  rw [List.length_map, List.take_of_length_le (Nat.le_refl _)]
  refine wSs_fz (i := 0) (j := 5) rfl rfl ?_
  -- _law_long = 1
  refine w_cons (w_set 9 sc__law_far.nd rfl (.inl rfl) (.inl rfl) ?_)
  refine w_int ?_
  -- while _law_here != []:
  refine w_cons (w_while (fun mm ρ' μ' => ∃ (L : Nat), 0 < L ∧ L ≤ (farL m L).length + 1 ∧ mm = m.rooms.length * m.rooms.length - (farL m L).length ∧ μ' = (q, .dt (farT m L)) :: μ2 ∧ ∃ x3 x6 x7 x8 x10 x11 x12, ρ' = [some (machD m), some (.int m.rooms.length), some (.lst ((pairsN m).map pairD)), x3, some (.ptr q), some (.lst ((hereL m L).map pairD)), x6, x7, x8, some (.int L), x10, x11, x12]) (m.rooms.length * m.rooms.length - (farL m 1).length) ⟨1, Nat.zero_lt_one, by omega, rfl, by rw [farT_one]; rfl, _, _, _, _, _, _, _, rfl⟩ (fun mm ρ' μ' hI => ?_) PassesOwn.never)
  -- WHILE
  obtain ⟨L, hL, hLl, rfl, rfl, x3, x6, x7, x8, x10, x11, x12, rfl⟩ := hI
  have hL1 := hflen L
  have hL2 := hflen (L + 1)
  have hL3 : (farL m (L + 1)).length = (farL m L).length + (hereL m L).length := by
    show (farL m L ++ (hereL m L).map _).length = _
    rw [List.length_append, List.length_map]
  refine wt_cmp ?_
  refine w_name 5 rfl (.inl rfl) rfl ?_
  refine w_lst ?_
  refine wa_nil ?_
  refine ⟨by simp, ?_⟩
  refine o_neY hr.units (Ly.lst (Lys.map (n := 1) fun p _ => ly_pair p)) (Ly.lst Lys.nil) ?_
  rw [eqv_nil, List.isEmpty_map]
  refine ⟨_, rfl, ?_⟩
  refine ⟨fun hb => ?_, fun hb => ?_⟩
  · -- for _law_pair in _law_here:
    refine w_cons (w_for ?_ PassesOwn.never rfl)
    refine wi_lst ?_
    refine w_name 5 rfl (.inl rfl) rfl ?_
    refine ⟨_, rfl, ?_⟩
    refine ⟨fun i ρ' μ' => μ' = (q, .dt ((farL m L ++ ((hereL m L).take i).map fun p => (p, L)).map fun e => (pk e.1, D.int (e.2 : Nat)))) :: μ2 ∧ ∃ x10, ρ' = [some (machD m), some (.int m.rooms.length), some (.lst ((pairsN m).map pairD)), x3, some (.ptr q), some (.lst ((hereL m L).map pairD)), x6, x7, x8, some (.int L), x10, x11, x12], ⟨by rw [List.take_zero, List.map_nil, List.append_nil]; rfl, _, rfl⟩, ?_, ?_⟩
    · rintro i x ρ' μ' hx ⟨rfl, x10, rfl⟩
      obtain ⟨p, hp, rfl⟩ := map_get hx
      have htl : ((hereL m L).take i).length ≤ (hereL m L).length := by rw [List.length_take]; exact Nat.min_le_right _ _
      refine wg_name 10 sc__law_far.nd rfl (.inl rfl) (.inl rfl) ?_
      -- _law_found[_law_pair] = _law_long
      refine w_cons (w_tput hu ?_)
      refine w_name 9 rfl (.inl rfl) rfl ?_
      refine w_name 4 rfl (.inr (.inl rfl)) rfl ?_
      refine w_name 10 rfl (.inl rfl) rfl ?_
      refine ⟨q, 0, _, pk p, rfl, rfl, rfl, by rw [List.length_map, List.length_append, List.length_map]; omega, ?_⟩
      rw [farT_put hp]
      refine w_nil ?_
      exact ⟨rfl, _, rfl⟩
    rintro ρ' μ' ⟨rfl, x10, rfl⟩
    rw [List.length_map, List.take_of_length_le (Nat.le_refl _)]
    have eft : ((farL m L ++ (hereL m L).map fun p => (p, L)).map fun e => (pk e.1, D.int (e.2 : Nat))) = farT m (L + 1) := rfl
    rw [eft]
    -- _law_long = _law_long + 1
    refine w_cons (w_set 9 sc__law_far.nd rfl (.inl rfl) (.inl rfl) ?_)
    refine w_bin ?_
    refine w_name 9 rfl (.inl rfl) rfl ?_
    refine w_int ?_
    walk_at "Add"
    -- _law_here = []
    refine w_cons (w_set 5 sc__law_far.nd rfl (.inl rfl) (.inl rfl) ?_)
    refine w_lstM ?_
    refine wa_nil ?_
    refine ⟨by simp, fun p_here => ?_⟩
    -- for _law_one, _law_other in _law_pairs:
    refine w_cons (w_for ?_ PassesOwn.never rfl)
    refine wi_lst ?_
    refine w_name 2 rfl (.inl rfl) rfl ?_
    refine ⟨_, rfl, ?_⟩
    refine ⟨fun i ρ' μ' => μ' = (p_here, .lst ((((pairsN m).take i).filter (dsB m (L + 1))).map pairD)) :: (q, .dt (farT m (L + 1))) :: μ2 ∧ ∃ x3 x6 x7 x8 x10 x11 x12, ρ' = [some (machD m), some (.int m.rooms.length), some (.lst ((pairsN m).map pairD)), x3, some (.ptr q), some (.ptr p_here), x6, x7, x8, some (.int (L + 1 : Nat)), x10, x11, x12], ⟨rfl, _, _, _, _, _, _, _, rfl⟩, ?_, ?_⟩
    · rintro i x ρ' μ' hx ⟨rfl, x3, x6, x7, x8, x10, x11, x12, rfl⟩
      obtain ⟨p, hp, rfl⟩ := map_get hx
      have hpin := mem_pairs.mp (List.mem_of_getElem? hp)
      have hil := (List.getElem?_eq_some_iff.mp hp).1
      have hnext := here_next hm hL hpin
      refine wg_tup rfl rfl ?_
      refine wgs_cons ?_
      refine wg_name 6 sc__law_far.nd rfl (.inr rfl) (.inl rfl) ?_
      refine wgs_cons ?_
      refine wg_name 7 sc__law_far.nd rfl (.inr rfl) (.inl rfl) ?_
      refine wgs_nil ?_
      -- _law_later = [_law_both(_law_machine_here, _law_one, _law_other, _law_ask) for _law_ask in range(_law_machine_here[0])]
      refine w_cons (w_setLc (own := [("_law_ask", 8)]) 11 (.one 8) (by decide) rfl sc__law_far.nd rfl rfl (blkOk_by (N := N__law_far) (sc := defScope s__law_far) (by decide +kernel)) (sw_true rfl rfl rfl (by decide +kernel)) (fun _ _ _ _ _ => pg_name (i := 8) sc__law_far.nd rfl (by first | exact .inl rfl | exact .inr rfl)) ?_)
      refine wi_rng1 T.b_range ?_
      refine w_ix ?_
      refine w_name 0 rfl (.inr (.inl rfl)) rfl ?_
      refine w_int ?_
      refine ix_tupD 0 rfl rfl ?_
      refine ⟨_, rfl, by omega, ?_⟩
      refine ⟨by rw [rngD_len]; omega, fun t acc μ3 => acc = ((List.range m.asks).take t).map (fun k => poD (bothF m p k)) ∧ μ3 = (p_here, .lst ((((pairsN m).take i).filter (dsB m (L + 1))).map pairD)) :: (q, .dt (farT m (L + 1))) :: μ2, ⟨rfl, rfl⟩, ?_, ?_⟩
      · rintro p3 t x acc μ3 hx2 ⟨rfl, rfl⟩
        obtain ⟨ht, rfl⟩ := rngD_get hx2
        rw [toNat_natCast'] at ht
        rw [Int.zero_add (t : Int)]
        have htr : (List.range m.asks)[t]? = some t := List.getElem?_range ht
        refine ⟨_, rfl, fun _ _ _ _ _ => ?_⟩
        refine ⟨fun _ _ _ _ _ _ => ?_, fun hb => (nomatch hb)⟩
        refine w_callG G__law_both hr ?_
        refine wa_cons ?_
        refine w_name 0 rfl (.inr (.inl rfl)) rfl ?_
        refine wa_cons ?_
        refine w_name 6 rfl (.inr (.inl rfl)) rfl ?_
        refine wa_cons ?_
        refine w_name 7 rfl (.inr (.inl rfl)) rfl ?_
        refine wa_cons ?_
        refine w_name 8 rfl (.inl rfl) rfl ?_
        refine wa_nil ?_
        refine ⟨m, most, p.1, p.2, t, rfl, hm, hpin, ht, ?_⟩
        refine ⟨_, rfl, ?_⟩
        exact ⟨tm_next (g := fun k => poD (bothF m p k)) htr, rfl⟩
      rintro p3 acc μ3 ⟨rfl, rfl⟩
      rw [hfull]
      refine ⟨_, _, _, rfl, rfl, .inl ?_⟩
      -- _law_met = [_law_pair for _law_pair in _law_later if _law_pair is not None and _law_pair in _law_found]
      refine w_cons (w_setLc (own := [("_law_pair", 10)]) 12 (.one 10) (by decide) rfl sc__law_far.nd rfl rfl (blkOk_by (N := N__law_far) (sc := defScope s__law_far) (by decide +kernel)) (sw_true rfl rfl rfl (by decide +kernel)) (fun _ _ _ _ _ => pg_name (i := 10) sc__law_far.nd rfl (by first | exact .inl rfl | exact .inr rfl)) ?_)
      refine wi_lst ?_
      refine w_name 11 rfl (.inl rfl) rfl ?_
      refine ⟨_, rfl, ?_⟩
      refine ⟨by rw [List.length_map, List.length_range]; omega, fun t acc μ3 => acc = (((List.range m.asks).take t).filter fun k => (bothF m p k).any fun g => (farL m (L + 1)).any fun e => e.1 == g).map (fun k => poD (bothF m p k)) ∧ μ3 = (p_here, .lst ((((pairsN m).take i).filter (dsB m (L + 1))).map pairD)) :: (q, .dt (farT m (L + 1))) :: μ2, ⟨rfl, rfl⟩, ?_, ?_⟩
      · rintro p3 t x acc μ3 hx2 ⟨rfl, rfl⟩
        obtain ⟨kk, hkk, rfl⟩ := map_get hx2
        refine ⟨_, rfl, fun _ _ _ _ _ => ?_⟩
        refine wt_b (((bothF m p kk).any fun g => (farL m (L + 1)).any fun e => e.1 == g)) ?_ ?_
        · refine wt_w ?_
          refine ww_and ?_
          refine wt_cmp ?_
          refine w_name 10 rfl (.inl rfl) rfl ?_
          refine w_non ?_
          walk_at "IsNot"
          refine ⟨_, rfl, ?_⟩
          refine ⟨fun hb0 => ?_, fun hb0 => ⟨(by rw [po_none hb0]; rfl), rfl⟩⟩
          refine ww_and1 ?_
          refine wt_tin hu ?_
          refine w_name 10 rfl (.inl rfl) rfl ?_
          refine w_name 4 rfl (.inr (.inl rfl)) rfl ?_
          obtain ⟨g, hg⟩ := po_some hb0
          rw [hg]
          refine ⟨q, 2, _, pk g, rfl, rfl, rfl, ?_⟩
          rw [far_some]
          exact ⟨(by rfl), rfl⟩
        refine ⟨fun hb => ?_, fun hb => ?_⟩
        · intro _ _ _ _ _
          refine w_name 10 rfl (.inl rfl) rfl ?_
          refine ⟨_, rfl, ?_⟩
          exact ⟨fm_yes (g := fun k => poD (bothF m p k)) hkk hb, rfl⟩
        · refine ⟨_, rfl, ?_⟩
          exact ⟨fm_no hkk hb, rfl⟩
      rintro p3 acc μ3 ⟨rfl, rfl⟩
      rw [List.length_map, List.take_of_length_le (Nat.le_refl _)]
      refine ⟨_, _, _, rfl, rfl, .inl ?_⟩
      -- if (_law_one, _law_other) not in _law_found and _law_met != []:
      refine w_cons (w_if ?_)
      refine wt_b ((dsB m (L + 1) p)) ?_ ?_
      · refine wt_w ?_
        refine ww_and ?_
        refine wt_tnin hu ?_
        refine w_tup ?_
        refine wa_cons ?_
        refine w_name 6 rfl (.inr (.inl rfl)) rfl ?_
        refine wa_cons ?_
        refine w_name 7 rfl (.inr (.inl rfl)) rfl ?_
        refine wa_nil ?_
        refine ⟨by simp, ?_⟩
        refine w_name 4 rfl (.inr (.inl rfl)) rfl ?_
        refine ⟨q, 1, _, pk p, rfl, rfl, rfl, ?_⟩
        rw [far_some]
        refine ⟨fun hb0 => ?_, fun hb0 => ⟨(by rw [← hnext, hb0]; rfl), rfl⟩⟩
        refine ww_and1 ?_
        refine wt_cmp ?_
        refine w_name 12 rfl (.inl rfl) rfl ?_
        refine w_lst ?_
        refine wa_nil ?_
        refine ⟨by simp, ?_⟩
        refine o_neY hr.units (Ly.lst (Lys.map (n := 1) fun k _ => ly_po (bothF m p k))) (Ly.lst Lys.nil) ?_
        rw [eqv_nil, List.isEmpty_map, filt_any, Bool.not_not]
        refine ⟨_, rfl, ?_⟩
        exact ⟨(by rw [← hnext, hb0]; rfl), rfl⟩
      refine ⟨fun hb => ?_, fun hb => ?_⟩
      · -- _law_here.append((_law_one, _law_other))
        refine w_cons (w_expr ?_)
        refine w_append ?_
        refine w_name 5 rfl (.inl rfl) rfl ?_
        refine ⟨.inl ⟨rfl, 0, _, rfl⟩, ?_⟩
        refine wa_cons ?_
        refine w_tup ?_
        refine wa_cons ?_
        refine w_name 6 rfl (.inr (.inl rfl)) rfl ?_
        refine wa_cons ?_
        refine w_name 7 rfl (.inr (.inl rfl)) rfl ?_
        refine wa_nil ?_
        refine ⟨by simp, ?_⟩
        refine wa_nil ?_
        refine m_append 0 rfl (Nat.lt_of_le_of_lt (by rw [List.length_map]; exact Nat.le_trans (List.length_filter_le _ _) (List.length_take_le _ _)) (show i < 1000000 by omega)) ?_
        refine w_nil ?_
        refine w_nil ?_
        refine ⟨?_, _, _, _, _, _, _, _, rfl⟩
        rw [← fm_yes hp hb]
        rfl
      · refine w_nil ?_
        refine w_nil ?_
        refine ⟨?_, _, _, _, _, _, _, _, rfl⟩
        rw [← fm_no hp hb]
    rintro ρ' μ' ⟨rfl, x3, x6, x7, x8, x10, x11, x12, rfl⟩
    rw [List.length_map, List.take_of_length_le (Nat.le_refl _)]
    refine wSs_fz (i := 0) (j := 5) rfl rfl ?_
    refine w_nil ?_
    have hne : 0 < (hereL m L).length := by
      cases e : hereL m L with
      | nil => rw [e] at hb; cases hb
      | cons a l => exact Nat.succ_pos _
    exact ⟨m.rooms.length * m.rooms.length - (farL m (L + 1)).length, by omega, L + 1, Nat.succ_pos _, by omega, rfl, rfl, _, _, _, _, _, _, _, rfl⟩
  -- return _law_found
  refine w_cons (w_ret ?_)
  refine w_name 4 rfl (.inr (.inl rfl)) rfl ?_
  have hnil : hereL m L = [] := by
    cases e : hereL m L with
    | nil => rfl
    | cons a l => rw [e] at hb; cases hb
  exact kq L q (far_end hm hL hnil) (by omega)
end
end L09

namespace L09
open PySem PySem.Spec L2 Oc
open Evl (Ex)
local macro_rules | `(tactic| walk_at "s") => `(tactic| first | assumption | omega | decide | (simp only [] at *; omega))
local macro_rules | `(tactic| walk_at "Add") => `(tactic| first | refine o_add ?_ | refine o_addS (by walk_at "s") ?_ | refine o_addT (by walk_at "s") ?_ | refine o_addL (by walk_at "s") ?_)
local macro_rules | `(tactic| walk_at "Sub") => `(tactic| refine o_sub ?_)
local macro_rules | `(tactic| walk_at "Mult") => `(tactic| refine o_mul (by walk_at "s") ?_)
local macro_rules | `(tactic| walk_at "Mod") => `(tactic| first | refine o_mod (by walk_at "s") ?_)
local macro_rules | `(tactic| walk_at "FloorDiv") => `(tactic| first | refine o_div (by walk_at "s") ?_)
local macro_rules | `(tactic| walk_at "Pow") => `(tactic| refine o_pow (by walk_at "s") ?_)
local macro_rules | `(tactic| walk_at "LShift") => `(tactic| refine o_shl (by walk_at "s") ?_)
local macro_rules | `(tactic| walk_at "RShift") => `(tactic| refine o_shr (by walk_at "s") ?_)
local macro_rules | `(tactic| walk_at "BitAnd") => `(tactic| refine o_band ?_)
local macro_rules | `(tactic| walk_at "BitXor") => `(tactic| refine o_bxor ?_)
local macro_rules | `(tactic| walk_at "BitOr") => `(tactic| refine o_bor ?_)
local macro_rules | `(tactic| walk_at "Lt") => `(tactic| refine o_lt ?_)
local macro_rules | `(tactic| walk_at "LtE") => `(tactic| refine o_le ?_)
local macro_rules | `(tactic| walk_at "Gt") => `(tactic| refine o_gt ?_)
local macro_rules | `(tactic| walk_at "GtE") => `(tactic| refine o_ge ?_)
local macro_rules | `(tactic| walk_at "Eq") => `(tactic| refine o_eq (by rfl) ?_)
local macro_rules | `(tactic| walk_at "NotEq") => `(tactic| refine o_ne (by rfl) ?_)
local macro_rules | `(tactic| walk_at "Is") => `(tactic| refine o_isN ?_)
local macro_rules | `(tactic| walk_at "IsNot") => `(tactic| refine o_notN ?_)
local macro_rules | `(tactic| walk_at "In") => `(tactic| refine o_in (by first | exact .inl rfl | exact .inr (.inl rfl) | exact .inr (.inr rfl)) (by rfl) (by rfl) ?_)
local macro_rules | `(tactic| walk_at "NotIn") => `(tactic| refine o_nin (by first | exact .inl rfl | exact .inr (.inl rfl) | exact .inr (.inr rfl)) (by rfl) (by rfl) ?_)
local macro_rules | `(tactic| walk_at "c_abs") => `(tactic| refine c_abs ?_)
local macro_rules | `(tactic| walk_at "c_len") => `(tactic| first | refine c_lenL ?_ | refine c_lenC ?_ | refine c_lenT ?_ | refine c_lenS (by walk_at "s") ?_ | refine c_lenP 0 (by first | assumption | rfl) ?_)
local macro_rules | `(tactic| walk_at "c_str") => `(tactic| refine c_str (by walk_at "s") ?_)
local macro_rules | `(tactic| walk_at "c_isinstance") => `(tactic| refine c_isi rfl (by rfl) ?_)
local macro_rules | `(tactic| walk_at "sl") => `(tactic| first | refine sd_tup ?_ | refine sd_lst ?_)
local macro_rules | `(tactic| walk_at "c_tuple") => `(tactic| first | refine c_tupL ?_ | refine c_tupP 0 (by first | assumption | rfl) ?_ | refine c_tupT ?_)
local macro_rules | `(tactic| walk_at "c_int") => `(tactic| first | refine c_intB ?_)
local macro_rules | `(tactic| walk_at "USub") => `(tactic| refine u_neg ?_)
local macro_rules | `(tactic| walk_at "pen") => `(tactic| first | assumption | exact get_set (by assumption) | exact get_set (get_set (by assumption)) | exact get_here | (apply get_cons; walk_at "pen") | (apply get_app; walk_at "pen"))
local macro_rules | `(tactic| walk_at "mu") => `(tactic| simp only [List.set_cons_succ, List.set_set, List.set_cons_zero])
/-! ### tables: plain facts -/
def Ptd (m : Mach) (p : Pair) : Prop := ∃ row, Prt m p row
theorem ptd_one {m : Mach} {p : Pair} {k : Nat} (hk : k < m.asks) (h : unlB m p k = true) : Ptd m p := ⟨[k], prt_one.mpr ⟨hk, h⟩⟩
theorem ptd_step {m : Mach} {p q : Pair} {k : Nat} (hk : k < m.asks) (hb : bothF m p k = some q) (h : Ptd m q) : Ptd m p := by
  obtain ⟨r, hr⟩ := h
  have hne : r ≠ [] := fun e => by subst e; exact prt_nil hr
  exact ⟨k :: r, (prt_cons hne).mpr ⟨hk, q, hb, hr⟩⟩
theorem ptd_ind {m : Mach} {most : Nat} (hm : m.Ok most) {S : Pair → Prop} (h1 : ∀ p, PIn m p → ∀ k, k < m.asks → unlB m p k = true → S p) (h2 : ∀ p, PIn m p → ∀ k q, k < m.asks → bothF m p k = some q → S q → S p) : ∀ p, PIn m p → Ptd m p → S p := by
  have H : ∀ (row : List Nat) (p : Pair), PIn m p → Prt m p row → S p := by
    intro row
    induction row with
    | nil => intro p _ h; exact absurd h prt_nil
    | cons k r ih =>
      intro p hp h
      by_cases hr : r = []
      · subst hr
        obtain ⟨a, b⟩ := prt_one.mp h
        exact h1 p hp k a b
      · obtain ⟨a, q, b, c⟩ := (prt_cons hr).mp h
        exact h2 p hp k q a b (ih q (both_in hm hp a b) c)
  intro p hp ⟨row, h⟩
  exact H row p hp h
theorem ptd_ds {m : Mach} {p : Pair} : Ptd m p ↔ ∃ n, dsB m n p = true := by
  constructor
  · rintro ⟨row, h⟩
    obtain ⟨n, hn, _⟩ := ds_of h
    exact ⟨n, hn⟩
  · rintro ⟨n, h⟩
    have h0 := ds_pos h
    obtain ⟨n, rfl⟩ : ∃ k, n = k + 1 := ⟨n - 1, by omega⟩
    obtain ⟨row, _, hr⟩ := (dB_iff m n p).mp (ds_iff.mp h).1
    exact ⟨row, hr⟩
/-- who comes from where -/
abbrev Com := List (Pair × List Pair)
structure CI (m : Mach) (C : Com) (i j : Nat) : Prop where
  nd : (C.map (·.1)).Nodup
  ok : ∀ e ∈ C, PIn m e.1 ∧ (∀ p ∈ e.2, PIn m p ∧ ∃ k, k < m.asks ∧ bothF m p k = some e.1) ∧ e.2.length ≤ i * m.asks + j
  all : ∀ i' p k q, (pairsN m)[i']? = some p → k < m.asks → (i' < i ∨ (i' = i ∧ k < j)) → bothF m p k = some q → ∃ e ∈ C, e.1 = q ∧ p ∈ e.2
theorem CI.le {m : Mach} {C : Com} {i j : Nat} (h : CI m C i j) : C.length ≤ m.rooms.length * m.rooms.length := by
  have := pairs_le h.nd fun p hp => by
    obtain ⟨e, he, rfl⟩ := List.mem_map.mp hp
    exact (h.ok e he).1
  rwa [List.length_map] at this
theorem ci_start (m : Mach) : CI m [] 0 0 := ⟨List.nodup_nil, fun e he => (nomatch he), fun i' p k q _ _ h => by omega⟩
theorem ci_skip {m : Mach} {C : Com} {i j : Nat} {p : Pair} (h : CI m C i j) (hp : (pairsN m)[i]? = some p) (hb : bothF m p j = none) : CI m C i (j + 1) := by
  refine ⟨h.nd, fun e he => ?_, fun i' p' k q h1 h2 h3 h4 => ?_⟩
  · obtain ⟨a, b, c⟩ := h.ok e he
    exact ⟨a, b, by omega⟩
  · by_cases e : i' = i ∧ k = j
    · obtain ⟨rfl, rfl⟩ := e
      rw [hp] at h1
      cases h1
      rw [hb] at h4
      cases h4
    · exact h.all i' p' k q h1 h2 (by omega) h4
theorem ci_next {m : Mach} {C : Com} {i : Nat} (h : CI m C i m.asks) : CI m C (i + 1) 0 := by
  refine ⟨h.nd, fun e he => ?_, fun i' p' k q h1 h2 h3 h4 => h.all i' p' k q h1 h2 (by omega) h4⟩
  obtain ⟨a, b, c⟩ := h.ok e he
  exact ⟨a, b, by rw [Nat.add_mul, Nat.one_mul]; exact c⟩
/-- one more at its place -/
theorem ci_put {m : Mach} {most : Nat} (hm : m.Ok most) {C C' : Com} {i j n : Nat} {p g : Pair} {l : List Pair} (h : CI m C i j) (hp : (pairsN m)[i]? = some p) (hj : j < m.asks) (hb : bothF m p j = some g)
    (hC : C' = C ∨ (C' = C ++ [(g, [])] ∧ g ∉ C.map (·.1))) (hn : C'[n]? = some (g, l)) : CI m (C'.set n (g, l ++ [p])) i (j + 1) := by
  have hpin := mem_pairs.mp (List.mem_of_getElem? hp)
  have hnl := (List.getElem?_eq_some_iff.mp hn).1
  have nd' : (C'.map (·.1)).Nodup := by
    rcases hC with rfl | ⟨rfl, hg⟩
    · exact h.nd
    · rw [List.map_append]
      refine List.nodup_append.mpr ⟨h.nd, by simp, fun x hx y hy e => ?_⟩
      have hy : y = g := by simpa using hy
      subst e hy
      exact hg hx
  have ok' : ∀ e ∈ C', PIn m e.1 ∧ (∀ p ∈ e.2, PIn m p ∧ ∃ k, k < m.asks ∧ bothF m p k = some e.1) ∧ e.2.length ≤ i * m.asks + j := fun e he => by
    rcases hC with rfl | ⟨rfl, hg⟩
    · exact h.ok e he
    · rcases List.mem_append.mp he with he | he
      · exact h.ok e he
      · rw [List.mem_singleton] at he
        subst he
        exact ⟨both_in hm hpin hj hb, fun q hq => (nomatch hq), Nat.zero_le _⟩
  have sub : ∀ e ∈ C, e ∈ C' := fun e he => by
    rcases hC with rfl | ⟨rfl, hg⟩
    · exact he
    · exact List.mem_append_left _ he
  have map' : (C'.set n (g, l ++ [p])).map (·.1) = C'.map (·.1) := by
    rw [List.map_set]
    refine List.ext_getElem? fun t => ?_
    by_cases ht : n = t
    · subst ht
      rw [List.getElem?_set_self (by rw [List.length_map]; exact hnl), List.getElem?_map, hn]
      rfl
    · rw [List.getElem?_set_ne ht]
  have keep : ∀ e ∈ C', ∃ e' ∈ C'.set n (g, l ++ [p]), e'.1 = e.1 ∧ ∀ x ∈ e.2, x ∈ e'.2 := fun e he => by
    obtain ⟨t, ht, e2⟩ := List.getElem_of_mem he
    by_cases htn : n = t
    · subst htn
      have : e = (g, l) := by
        rw [List.getElem?_eq_getElem hnl, e2] at hn
        exact Option.some.inj hn
      subst this
      refine ⟨(g, l ++ [p]), List.mem_of_getElem? (List.getElem?_set_self hnl), rfl, fun x hx => List.mem_append_left _ hx⟩
    · refine ⟨e, ?_, rfl, fun x hx => hx⟩
      refine List.mem_of_getElem? (i := t) ?_
      rw [List.getElem?_set_ne htn, List.getElem?_eq_getElem ht, e2]
  refine ⟨by rw [map']; exact nd', fun e he => ?_, fun i' p' k q h1 h2 h3 h4 => ?_⟩
  · rcases List.mem_or_eq_of_mem_set he with he | he
    · obtain ⟨a, b, c⟩ := ok' e he
      exact ⟨a, b, by omega⟩
    · subst he
      obtain ⟨a, b, c⟩ := ok' _ (List.mem_of_getElem? hn)
      refine ⟨a, fun x hx => ?_, by rw [List.length_append]; show l.length + 1 ≤ _; have c : l.length ≤ i * m.asks + j := c; omega⟩
      rcases List.mem_append.mp hx with hx | hx
      · exact b x hx
      · rw [List.mem_singleton] at hx
        subst hx
        exact ⟨hpin, j, hj, hb⟩
  · by_cases e : i' = i ∧ k = j
    · obtain ⟨rfl, rfl⟩ := e
      rw [hp] at h1
      cases h1
      rw [hb] at h4
      cases h4
      exact ⟨(g, l ++ [p]), List.mem_of_getElem? (List.getElem?_set_self hnl), rfl, List.mem_append_right _ List.mem_cons_self⟩
    · obtain ⟨e1, he1, e2, e3⟩ := h.all i' p' k q h1 h2 (by omega) h4
      obtain ⟨e4, he4, e5, e6⟩ := keep e1 (sub e1 he1)
      exact ⟨e4, he4, e5.trans e2, e6 p' e3⟩
structure Came (m : Mach) (C : Com) : Prop where
  nd : (C.map (·.1)).Nodup
  ok : ∀ e ∈ C, PIn m e.1 ∧ (∀ p ∈ e.2, PIn m p ∧ ∃ k, k < m.asks ∧ bothF m p k = some e.1) ∧ e.2.length ≤ 100000
  all : ∀ p k q, PIn m p → k < m.asks → bothF m p k = some q → ∃ e ∈ C, e.1 = q ∧ p ∈ e.2
theorem came_of {m : Mach} {C : Com} (ha : m.asks ≤ 4) (hN : m.rooms.length * m.rooms.length ≤ 10000) (h : CI m C (pairsN m).length 0) : Came m C := by
  have hl : (pairsN m).length = m.rooms.length * m.rooms.length := by unfold pairsN; rw [List.length_map, List.length_range]
  refine ⟨h.nd, fun e he => ?_, fun p k q hp hk hb => ?_⟩
  · obtain ⟨a, b, c⟩ := h.ok e he
    refine ⟨a, b, ?_⟩
    have : (pairsN m).length * m.asks ≤ 10000 * 4 := Nat.mul_le_mul (by rw [hl]; exact hN) ha
    omega
  · obtain ⟨i, hi, e⟩ := List.getElem_of_mem (mem_pairs.mpr hp)
    exact h.all i p k q (by rw [List.getElem?_eq_getElem hi, e]) hk (.inl hi) hb
/-! the work list -/
structure WI (m : Mach) (M W : List Pair) (c : Nat) : Prop where
  nd : M.Nodup
  inM : ∀ p ∈ M, PIn m p ∧ Ptd m p
  sub : ∀ p ∈ W, p ∈ M
  base : ∀ p, PIn m p → ∀ k, k < m.asks → unlB m p k = true → p ∈ M
  done : ∀ p ∈ M, p ∈ W ∨ ∀ p' k, PIn m p' → k < m.asks → bothF m p' k = some p → p' ∈ M
  cnt : M.length = c + W.length
theorem WI.le {m : Mach} {M W : List Pair} {c : Nat} (h : WI m M W c) : M.length ≤ m.rooms.length * m.rooms.length := pairs_le h.nd fun p hp => (h.inM p hp).1
theorem wi_start (m : Mach) : WI m (hereL m 1) (hereL m 1) 0 := by
  refine ⟨List.Pairwise.filter _ (pairs_nodup m), fun p hp => ?_, fun p hp => hp, fun p hp k hk hu => ?_, fun p hp => .inl hp, by rw [Nat.zero_add]⟩
  · obtain ⟨a, b⟩ := mem_here.mp hp
    exact ⟨a, ptd_ds.mpr ⟨1, b⟩⟩
  · refine mem_here.mpr ⟨hp, ?_⟩
    rw [ds_one, List.any_eq_true]
    exact ⟨k, List.mem_range.mpr hk, hu⟩
theorem wi_end {m : Mach} {most : Nat} (hm : m.Ok most) {M : List Pair} {c : Nat} (h : WI m M [] c) {p : Pair} (hp : PIn m p) : p ∈ M ↔ Ptd m p := by
  refine ⟨fun hq => (h.inM p hq).2, ptd_ind hm (S := fun p => p ∈ M) h.base (fun p hp k q hk hb hq => ?_) p hp⟩
  rcases h.done q hq with h0 | h0
  · cases h0
  · exact h0 p k hp hk hb
/-- within a turn: p is taken off, those ahead of i looked at -/
structure WJ (m : Mach) (M W : List Pair) (c : Nat) (p : Pair) (l : List Pair) (i : Nat) : Prop where
  nd : M.Nodup
  inM : ∀ p ∈ M, PIn m p ∧ Ptd m p
  sub : ∀ p ∈ W, p ∈ M
  base : ∀ p, PIn m p → ∀ k, k < m.asks → unlB m p k = true → p ∈ M
  done : ∀ p2 ∈ M, p2 = p ∨ p2 ∈ W ∨ ∀ p' k, PIn m p' → k < m.asks → bothF m p' k = some p2 → p' ∈ M
  cnt : M.length = c + 1 + W.length
  seen : ∀ p' ∈ l.take i, p' ∈ M
theorem WJ.le {m : Mach} {M W : List Pair} {c i : Nat} {p : Pair} {l : List Pair} (h : WJ m M W c p l i) : M.length ≤ m.rooms.length * m.rooms.length := pairs_le h.nd fun p hp => (h.inM p hp).1
theorem wj_start {m : Mach} {M W : List Pair} {c : Nat} {p : Pair} {l : List Pair} (h : WI m M (W ++ [p]) c) : WJ m M W c p l 0 := by
  refine ⟨h.nd, h.inM, fun q hq => h.sub q (List.mem_append_left _ hq), h.base, fun q hq => ?_, ?_, fun q hq => (nomatch hq)⟩
  · rcases h.done q hq with h0 | h0
    · rcases List.mem_append.mp h0 with h0 | h0
      · exact .inr (.inl h0)
      · exact .inl (List.mem_singleton.mp h0)
    · exact .inr (.inr h0)
  · have := h.cnt
    rw [List.length_append] at this
    show M.length = c + 1 + W.length
    have : M.length = c + (W.length + 1) := this
    omega
theorem wj_old {m : Mach} {M W : List Pair} {c i : Nat} {p g : Pair} {l : List Pair} (h : WJ m M W c p l i) (hg : l[i]? = some g) (hM : g ∈ M) : WJ m M W c p l (i + 1) := by
  refine ⟨h.nd, h.inM, h.sub, h.base, h.done, h.cnt, fun q hq => ?_⟩
  rw [filter_next hg] at hq
  rcases List.mem_append.mp hq with hq | hq
  · exact h.seen q hq
  · rw [List.mem_singleton] at hq; subst hq; exact hM
theorem wj_new {m : Mach} {M W : List Pair} {c i : Nat} {p g : Pair} {l : List Pair} (h : WJ m M W c p l i) (hg : l[i]? = some g) (hM : g ∉ M) (hin : PIn m g) (hpt : Ptd m g) : WJ m (M ++ [g]) (W ++ [g]) c p l (i + 1) := by
  refine ⟨?_, fun q hq => ?_, fun q hq => ?_, fun q hq k hk hu => List.mem_append_left _ (h.base q hq k hk hu), fun q hq => ?_, ?_, fun q hq => ?_⟩
  · refine List.nodup_append.mpr ⟨h.nd, by simp, fun x hx y hy e => ?_⟩
    have hy : y = g := by simpa using hy
    subst e hy
    exact hM hx
  · rcases List.mem_append.mp hq with hq | hq
    · exact h.inM q hq
    · rw [List.mem_singleton] at hq; subst hq; exact ⟨hin, hpt⟩
  · rcases List.mem_append.mp hq with hq | hq
    · exact List.mem_append_left _ (h.sub q hq)
    · exact List.mem_append_right _ hq
  · rcases List.mem_append.mp hq with hq | hq
    · rcases h.done q hq with h0 | h0 | h0
      · exact .inl h0
      · exact .inr (.inl (List.mem_append_left _ h0))
      · exact .inr (.inr fun p' k a b d => List.mem_append_left _ (h0 p' k a b d))
    · exact .inr (.inl (List.mem_append_right _ hq))
  · rw [List.length_append, List.length_append]
    have := h.cnt
    show M.length + 1 = c + 1 + (W.length + 1)
    omega
  · rw [filter_next hg] at hq
    rcases List.mem_append.mp hq with hq | hq
    · exact List.mem_append_left _ (h.seen q hq)
    · exact List.mem_append_right _ hq
theorem wj_end {m : Mach} {M W : List Pair} {c : Nat} {p : Pair} {l : List Pair} (h : WJ m M W c p l l.length) (hl : ∀ p' k, PIn m p' → k < m.asks → bothF m p' k = some p → p' ∈ l) : WI m M W (c + 1) := by
  refine ⟨h.nd, h.inM, h.sub, h.base, fun q hq => ?_, h.cnt⟩
  rcases h.done q hq with h0 | h0 | h0
  · subst h0
    refine .inr fun p' k a b d => h.seen p' ?_
    rw [List.take_of_length_le (Nat.le_refl _)]
    exact hl p' k a b d
  · exact .inl h0
  · exact .inr h0
/-- the list of a pair, none where it stands not -/
def comeL (C : Com) (p : Pair) : List Pair := ((C.find? fun e => e.1 == p).map (·.2)).getD []
theorem come_mem {m : Mach} {C : Com} (h : Came m C) (p : Pair) : (∀ p' ∈ comeL C p, PIn m p' ∧ ∃ k, k < m.asks ∧ bothF m p' k = some p) ∧ (∀ p' k, PIn m p' → k < m.asks → bothF m p' k = some p → p' ∈ comeL C p) ∧ (comeL C p).length ≤ 100000 := by
  unfold comeL
  cases e : C.find? fun e => e.1 == p with
  | none =>
    refine ⟨fun q hq => (nomatch hq), fun p' k a b d => ?_, Nat.zero_le _⟩
    obtain ⟨e1, h1, h2, h3⟩ := h.all p' k p a b d
    rw [List.find?_eq_none] at e
    exact absurd (beq_iff_eq.mpr h2) (e e1 h1)
  | some e0 =>
    have h1 := List.mem_of_find?_eq_some e
    have h2 := List.find?_some e
    rw [beq_iff_eq] at h2
    obtain ⟨a, b, c⟩ := h.ok e0 h1
    rw [h2] at b
    refine ⟨b, fun p' k x y z => ?_, c⟩
    obtain ⟨e3, h3, h4, h5⟩ := h.all p' k p x y z
    have : e3 = e0 := by
      obtain ⟨i, hi, ei⟩ := List.getElem_of_mem h3
      obtain ⟨j, hj, ej⟩ := List.getElem_of_mem h1
      have e5 : (C.map (·.1))[i]'(by rw [List.length_map]; exact hi) = (C.map (·.1))[j]'(by rw [List.length_map]; exact hj) := by
        rw [List.getElem_map, List.getElem_map, ei, ej, h4, h2]
      have e6 := (List.getElem_inj h.nd).mp e5
      subst e6
      rw [← ei, ← ej]
    rw [← this]
    exact h5
/-! tables as data -/
def rowL (N : Nat) (T : Pair → Bool) (i : Nat) : List D := (List.range N).map fun j => D.bl (T (i, j))
def tabD (N : Nat) (T : Pair → Bool) : D := .lst ((List.range N).map fun i => .lst (rowL N T i))
def rowsM (N : Nat) (ra : Nat → Addr) (T : Pair → Bool) : Mu := (List.range N).map fun i => (ra i, MO.lst (rowL N T i))
abbrev ptrsL (N : Nat) (ra : Nat → Addr) : List D := (List.range N).map fun i => .ptr (ra i)
def inB (M : List Pair) (p : Pair) : Bool := M.any fun q => q == p
theorem inB_iff {M : List Pair} {p : Pair} : inB M p = true ↔ p ∈ M := by
  unfold inB
  rw [List.any_eq_true]
  exact ⟨fun ⟨x, h1, h2⟩ => by rw [beq_iff_eq] at h2; exact h2 ▸ h1, fun h => ⟨p, h, beq_self_eq_true _⟩⟩
theorem rowL_get {N : Nat} {T : Pair → Bool} {i j : Nat} (hj : j < N) : (rowL N T i)[j]? = some (.bl (T (i, j))) := by
  unfold rowL
  rw [List.getElem?_map, List.getElem?_range hj]
  rfl
theorem rowsM_get {N : Nat} {ra : Nat → Addr} {T : Pair → Bool} {i : Nat} (hi : i < N) : (rowsM N ra T)[i]? = some (ra i, .lst (rowL N T i)) := by
  unfold rowsM
  rw [List.getElem?_map, List.getElem?_range hi]
  rfl
theorem rowsM_len (N : Nat) (ra : Nat → Addr) (T : Pair → Bool) : (rowsM N ra T).length = N := by unfold rowsM; rw [List.length_map, List.length_range]
theorem rows_at {N : Nat} {ra : Nat → Addr} {T : Pair → Bool} {i : Nat} (hi : i < N) (μ : Mu) : (rowsM N ra T ++ μ)[i]? = some (ra i, .lst (rowL N T i)) := by
  rw [List.getElem?_append_left (by rw [rowsM_len]; exact hi)]
  exact rowsM_get hi
theorem rows_set {N : Nat} {ra : Nat → Addr} {M : List Pair} {i j : Nat} (hi : i < N) (hj : j < N) (μ : Mu) : (rowsM N ra (inB M) ++ μ).set i (ra i, .lst ((rowL N (inB M) i).set j (.bl true))) = rowsM N ra (inB (M ++ [(i, j)])) ++ μ := by
  rw [List.set_append_left _ _ (by rw [rowsM_len]; exact hi)]
  congr 1
  refine List.ext_getElem? fun t => ?_
  have inb : ∀ a b : Nat, inB (M ++ [(i, j)]) (a, b) = (inB M (a, b) || ((i, j) : Pair) == (a, b)) := fun a b => by unfold inB; rw [List.any_append, List.any_cons, List.any_nil, Bool.or_false]
  by_cases ht : t < N
  · rw [rowsM_get ht]
    by_cases e : i = t
    · subst e
      rw [List.getElem?_set_self (by rw [rowsM_len]; exact hi)]
      refine congrArg (fun x => some (ra i, MO.lst x)) (List.ext_getElem? fun s => ?_)
      by_cases hs : s < N
      · rw [rowL_get hs, inb]
        by_cases e2 : j = s
        · subst e2
          rw [List.getElem?_set_self (by unfold rowL; rw [List.length_map, List.length_range]; exact hj), beq_self_eq_true, Bool.or_true]
        · rw [List.getElem?_set_ne e2, rowL_get hs]
          have : (((i, j) : Pair) == (i, s)) = false := by
            rw [beq_eq_false_iff_ne]
            intro h
            exact e2 (Prod.ext_iff.mp h).2
          rw [this, Bool.or_false]
      · rw [List.getElem?_eq_none (by unfold rowL; rw [List.length_set, List.length_map, List.length_range]; omega), List.getElem?_eq_none (by unfold rowL; rw [List.length_map, List.length_range]; omega)]
    · rw [List.getElem?_set_ne e, rowsM_get ht]
      refine congrArg (fun x => some (ra t, MO.lst x)) ?_
      unfold rowL
      refine List.map_congr_left fun s _ => ?_
      rw [inb]
      have : (((i, j) : Pair) == (t, s)) = false := by
        rw [beq_eq_false_iff_ne]
        intro h
        exact e (Prod.ext_iff.mp h).1
      rw [this, Bool.or_false]
  · rw [List.getElem?_eq_none (by rw [List.length_set, rowsM_len]; omega), List.getElem?_eq_none (by rw [rowsM_len]; omega)]
theorem tab_get {N : Nat} {T : Pair → Bool} {i : Nat} (hi : i < N) : ((List.range N).map fun i => D.lst (rowL N T i))[i]? = some (.lst (rowL N T i)) := by
  rw [List.getElem?_map, List.getElem?_range hi]
  rfl
/-! the pairs told as parted -/
structure IsParted (m : Mach) (L : List Pair) : Prop where
  srt : L.Pairwise leP
  nd : L.Nodup
  iff : ∀ p, p ∈ L ↔ PIn m p ∧ p.1 < p.2 ∧ Ptd m p
theorem parted_uniq {m : Mach} {L L' : List Pair} (h : IsParted m L) (h' : IsParted m L') : L = L' :=
  leP_uniq L L' (nodup_perm h.nd h'.nd fun p => (h.iff p).trans (h'.iff p).symm) h.srt h'.srt
theorem pairs_srt (m : Mach) : (pairsN m).Pairwise leP := by
  unfold pairsN
  rw [List.pairwise_map]
  refine List.Pairwise.imp (fun {a b} h => ?_) List.pairwise_lt_range
  show a / _ < b / _ ∨ (a / _ = b / _ ∧ a % _ ≤ b % _)
  have h1 := Nat.div_le_div_right (c := m.rooms.length) (Nat.le_of_lt h)
  by_cases e : a / m.rooms.length = b / m.rooms.length
  · have h2 := Nat.div_add_mod a m.rooms.length
    have h3 := Nat.div_add_mod b m.rooms.length
    rw [e] at h2
    exact .inr ⟨e, by omega⟩
  · exact .inl (by omega)
theorem parted_tab {m : Mach} {T : Pair → Bool} (hT : ∀ p, PIn m p → (T p = true ↔ Ptd m p)) : IsParted m ((pairsN m).filter fun p => decide (p.1 < p.2) && T p) := by
  refine ⟨List.Pairwise.filter _ (pairs_srt m), List.Pairwise.filter _ (pairs_nodup m), fun p => ?_⟩
  rw [List.mem_filter, mem_pairs, Bool.and_eq_true, decide_eq_true_iff]
  exact ⟨fun ⟨a, b, c⟩ => ⟨a, b, (hT p a).mp c⟩, fun ⟨a, b, c⟩ => ⟨a, b, (hT p a).mpr c⟩⟩
theorem parted_far {m : Mach} {L : Nat} (hW : Whole m L) {l : List Pair} (hp : l.Perm (((farL m L).map (·.1)).filter fun p => decide (p.1 < p.2))) (hs : l.Pairwise leP) : IsParted m l := by
  have nd : (((farL m L).map (·.1)).filter fun p => decide (p.1 < p.2)).Nodup := List.Pairwise.filter _ (far_nodup m L)
  refine ⟨hs, hp.nodup_iff.mpr nd, fun p => ?_⟩
  rw [hp.mem_iff, List.mem_filter, decide_eq_true_iff, List.mem_map]
  constructor
  · rintro ⟨⟨e, he, rfl⟩, h⟩
    obtain ⟨a, b, c⟩ := mem_far.mp he
    exact ⟨a, h, ptd_ds.mpr ⟨_, b⟩⟩
  · rintro ⟨a, b, c⟩
    obtain ⟨n, hn⟩ := ptd_ds.mp c
    exact ⟨⟨(p, n), mem_far.mpr ⟨a, hn, hW n p a hn⟩, rfl⟩, b⟩
theorem parted_len {m : Mach} {L : List Pair} (h : IsParted m L) : L.length ≤ m.rooms.length * m.rooms.length := pairs_le h.nd fun p hp => ((h.iff p).mp hp).1
/-! a row that parts, gone from both -/
theorem go_run {m : Mach} {a b : Nat} : ∀ (u : List Nat) (s : Pair), goF m (a, b) u = some s → (runM m (some a) u).2 = some s.1 ∧ (runM m (some b) u).2 = some s.2 ∧ (runM m (some a) u).1.length = u.length ∧ (runM m (some b) u).1.length = u.length := by
  refine snoc_ind ?_ ?_
  · intro s h
    cases h
    exact ⟨rfl, rfl, rfl, rfl⟩
  · intro u k ih s h
    rw [go_snoc] at h
    cases e : goF m (a, b) u with
    | none => rw [e] at h; cases h
    | some s' =>
      rw [e] at h
      have h : bothF m s' k = some s := h
      obtain ⟨h1, h2, h3, h4⟩ := ih s' e
      have hb : (m.cell s'.1 k).1 = some s.1 ∧ (m.cell s'.2 k).1 = some s.2 := by
        unfold bothF bothC at h
        split at h
        · rename_i x y e1 e2
          cases h
          exact ⟨e1, e2⟩
        · cases h
      rw [runM_snoc, runM_snoc]
      unfold stepM
      rw [h1, h2]
      exact ⟨hb.1, hb.2, by rw [List.length_append, List.length_append, h3]; rfl, by rw [List.length_append, List.length_append, h4]; rfl⟩
theorem prt_run {m : Mach} {a b : Nat} {row : List Nat} (h : Prt m (a, b) row) : ∃ l1 l2 x y, (runM m (some a) row).1 = l1 ++ [some x] ∧ (runM m (some b) row).1 = l2 ++ [some y] ∧ l1.length + 1 = row.length ∧ l2.length + 1 = row.length ∧ x ≠ y := by
  obtain ⟨u, k, s, rfl, _, hg, hu⟩ := h
  obtain ⟨h1, h2, h3, h4⟩ := go_run u s hg
  have hxy : ∃ x y, (m.cell s.1 k).2 = some x ∧ (m.cell s.2 k).2 = some y ∧ x ≠ y := by
    unfold unlB unlC at hu
    split at hu
    · rename_i x y e1 e2
      exact ⟨x, y, e1, e2, by simpa using hu⟩
    · cases hu
  obtain ⟨x, y, e1, e2, e3⟩ := hxy
  refine ⟨(runM m (some a) u).1, (runM m (some b) u).1, x, y, ?_, ?_, by rw [List.length_append, h3]; rfl, by rw [List.length_append, h4]; rfl, e3⟩
  · rw [runM_snoc]
    unfold stepM
    rw [h1]
    show (runM m (some a) u).1 ++ [(m.cell s.1 k).2] = _
    rw [e1]
  · rw [runM_snoc]
    unfold stepM
    rw [h2]
    show (runM m (some b) u).1 ++ [(m.cell s.2 k).2] = _
    rw [e2]
/-- no answers, no parting -/
theorem ptd_no {m : Mach} (h : ∀ p k, unlB m p k = false) (p : Pair) : ¬ Ptd m p := by
  rintro ⟨row, u, k, s, _, _, _, hu⟩
  rw [h] at hu
  cases hu
end L09

namespace L09
open PySem PySem.Spec L2 Oc
open Evl (Ex)
local macro_rules | `(tactic| walk_at "s") => `(tactic| first | assumption | omega | decide | (simp only [] at *; omega))
local macro_rules | `(tactic| walk_at "Add") => `(tactic| first | refine o_add ?_ | refine o_addS (by walk_at "s") ?_ | refine o_addT (by walk_at "s") ?_ | refine o_addL (by walk_at "s") ?_)
local macro_rules | `(tactic| walk_at "Sub") => `(tactic| refine o_sub ?_)
local macro_rules | `(tactic| walk_at "Mult") => `(tactic| refine o_mul (by walk_at "s") ?_)
local macro_rules | `(tactic| walk_at "Mod") => `(tactic| first | refine o_mod (by walk_at "s") ?_)
local macro_rules | `(tactic| walk_at "FloorDiv") => `(tactic| first | refine o_div (by walk_at "s") ?_)
local macro_rules | `(tactic| walk_at "Pow") => `(tactic| refine o_pow (by walk_at "s") ?_)
local macro_rules | `(tactic| walk_at "LShift") => `(tactic| refine o_shl (by walk_at "s") ?_)
local macro_rules | `(tactic| walk_at "RShift") => `(tactic| refine o_shr (by walk_at "s") ?_)
local macro_rules | `(tactic| walk_at "BitAnd") => `(tactic| refine o_band ?_)
local macro_rules | `(tactic| walk_at "BitXor") => `(tactic| refine o_bxor ?_)
local macro_rules | `(tactic| walk_at "BitOr") => `(tactic| refine o_bor ?_)
local macro_rules | `(tactic| walk_at "Lt") => `(tactic| refine o_lt ?_)
local macro_rules | `(tactic| walk_at "LtE") => `(tactic| refine o_le ?_)
local macro_rules | `(tactic| walk_at "Gt") => `(tactic| refine o_gt ?_)
local macro_rules | `(tactic| walk_at "GtE") => `(tactic| refine o_ge ?_)
local macro_rules | `(tactic| walk_at "Eq") => `(tactic| refine o_eq (by rfl) ?_)
local macro_rules | `(tactic| walk_at "NotEq") => `(tactic| refine o_ne (by rfl) ?_)
local macro_rules | `(tactic| walk_at "Is") => `(tactic| refine o_isN ?_)
local macro_rules | `(tactic| walk_at "IsNot") => `(tactic| refine o_notN ?_)
local macro_rules | `(tactic| walk_at "In") => `(tactic| refine o_in (by first | exact .inl rfl | exact .inr (.inl rfl) | exact .inr (.inr rfl)) (by rfl) (by rfl) ?_)
local macro_rules | `(tactic| walk_at "NotIn") => `(tactic| refine o_nin (by first | exact .inl rfl | exact .inr (.inl rfl) | exact .inr (.inr rfl)) (by rfl) (by rfl) ?_)
local macro_rules | `(tactic| walk_at "c_abs") => `(tactic| refine c_abs ?_)
local macro_rules | `(tactic| walk_at "c_len") => `(tactic| first | refine c_lenL ?_ | refine c_lenC ?_ | refine c_lenT ?_ | refine c_lenS (by walk_at "s") ?_ | refine c_lenP 0 (by first | assumption | rfl) ?_)
local macro_rules | `(tactic| walk_at "c_str") => `(tactic| refine c_str (by walk_at "s") ?_)
local macro_rules | `(tactic| walk_at "c_isinstance") => `(tactic| refine c_isi rfl (by rfl) ?_)
local macro_rules | `(tactic| walk_at "sl") => `(tactic| first | refine sd_tup ?_ | refine sd_lst ?_)
local macro_rules | `(tactic| walk_at "c_tuple") => `(tactic| first | refine c_tupL ?_ | refine c_tupP 0 (by first | assumption | rfl) ?_ | refine c_tupT ?_)
local macro_rules | `(tactic| walk_at "c_int") => `(tactic| first | refine c_intB ?_)
local macro_rules | `(tactic| walk_at "USub") => `(tactic| refine u_neg ?_)
local macro_rules | `(tactic| walk_at "pen") => `(tactic| first | assumption | exact get_set (by assumption) | exact get_set (get_set (by assumption)) | exact get_here | (apply get_cons; walk_at "pen") | (apply get_app; walk_at "pen"))
local macro_rules | `(tactic| walk_at "mu") => `(tactic| simp only [List.set_cons_succ, List.set_set, List.set_cons_zero])
/-! ### tables: the walk -/
abbrev Cel := Pair × Addr × List Pair
def comOf (E : List Cel) : Com := E.map fun e => (e.1, e.2.2)
def celD (E : List Cel) : List (List Key × D) := E.map fun e => (pk e.1, D.ptr e.2.1)
def celM (E : List Cel) : Mu := E.map fun e => (e.2.1, MO.lst (e.2.2.map pairD))
def cameD (C : Com) : D := .dct (C.map fun e => pk e.1) (C.map fun e => .lst (e.2.map pairD))
theorem cel_get {E : List Cel} {i : Nat} {e : Cel} (h : E[i]? = some e) (μ : Mu) : (celM E ++ μ)[i]? = some (e.2.1, .lst (e.2.2.map pairD)) := by
  have hl := (List.getElem?_eq_some_iff.mp h).1
  unfold celM
  rw [List.getElem?_append_left (by rw [List.length_map]; exact hl), List.getElem?_map, h]
  rfl
theorem cel_set {E : List Cel} {i : Nat} {g : Pair} {c : Addr} {l : List Pair} (h : E[i]? = some (g, c, l)) (p : Pair) (μ : Mu) : (celM E ++ μ).set i (c, .lst (l.map pairD ++ [pairD p])) = celM (E.set i (g, c, l ++ [p])) ++ μ := by
  have hl := (List.getElem?_eq_some_iff.mp h).1
  unfold celM
  rw [List.set_append_left _ _ (by rw [List.length_map]; exact hl), List.map_set]
  have e : ((l ++ [p]).map pairD) = l.map pairD ++ [pairD p] := by rw [List.map_append]; rfl
  show _ = (E.map _).set i (c, MO.lst ((l ++ [p]).map pairD)) ++ μ
  rw [e]
theorem cel_setD {E : List Cel} {i : Nat} {g : Pair} {c : Addr} {l : List Pair} (h : E[i]? = some (g, c, l)) (l' : List Pair) : celD (E.set i (g, c, l')) = celD E := by
  have hl := (List.getElem?_eq_some_iff.mp h).1
  unfold celD
  rw [List.map_set]
  refine List.ext_getElem? fun t => ?_
  by_cases ht : i = t
  · subst ht
    rw [List.getElem?_set_self (by rw [List.length_map]; exact hl), List.getElem?_map, h]
    rfl
  · rw [List.getElem?_set_ne ht]
theorem com_set (E : List Cel) (i : Nat) (g : Pair) (c : Addr) (l : List Pair) : comOf (E.set i (g, c, l)) = (comOf E).set i (g, l) := by unfold comOf; rw [List.map_set]
theorem cel_val {E : List Cel} {g : Pair} {d : D} (h : valD (celD E) (pk g) = some d) : ∃ (i : Nat) (c : Addr) (l : List Pair), E[i]? = some (g, c, l) ∧ d = .ptr c := by
  by_cases hg : ∃ e ∈ E, e.1 = g
  · obtain ⟨e, he, e1⟩ := hg
    by_cases hall : ∃ (i : Nat) (e : Cel), E[i]? = some e ∧ e.1 = g ∧ d = .ptr e.2.1
    · obtain ⟨i, ⟨g', c, l⟩, h1, h2, h3⟩ := hall
      have h2 : g' = g := h2
      subst h2
      exact ⟨i, c, l, h1, h3⟩
    · exfalso
      have : ∀ {E : List Cel}, valD (celD E) (pk g) = some d → ∃ e ∈ E, e.1 = g ∧ d = .ptr e.2.1 := by
        intro E
        induction E with
        | nil => intro h; cases h
        | cons a E ih =>
          intro h
          have h : valD ((pk a.1, D.ptr a.2.1) :: celD E) (pk g) = some d := h
          by_cases e : a.1 = g
          · rw [← e, valD_pos] at h
            cases h
            exact ⟨a, List.mem_cons_self, e, rfl⟩
          · rw [valD_neg (fun z => e (pk_inj z))] at h
            obtain ⟨b, h1, h2⟩ := ih h
            exact ⟨b, List.mem_cons_of_mem _ h1, h2⟩
      obtain ⟨e0, h1, h2, h3⟩ := this h
      obtain ⟨i, hi, ei⟩ := List.getElem_of_mem h1
      exact hall ⟨i, e0, by rw [List.getElem?_eq_getElem hi, ei], h2, h3⟩
  · have := valD_none (f := fun e : Cel => pk e.1) (g := fun e => D.ptr e.2.1) (k := pk g) (l := E) fun e he e2 => hg ⟨e, he, pk_inj e2⟩
    rw [show celD E = E.map fun e => (pk e.1, D.ptr e.2.1) from rfl, this] at h
    cases h
theorem cel_none {E : List Cel} {g : Pair} (h : valD (celD E) (pk g) = none) : g ∉ (comOf E).map (·.1) := by
  intro hg
  unfold comOf at hg
  rw [List.map_map] at hg
  obtain ⟨e, he, e1⟩ := List.mem_map.mp hg
  have e1 : e.1 = g := e1
  have : ∀ {E : List Cel}, e ∈ E → (valD (celD E) (pk g)).isSome = true := by
    intro E
    induction E with
    | nil => intro h; cases h
    | cons a E ih =>
      intro h
      show (valD ((pk a.1, D.ptr a.2.1) :: celD E) (pk g)).isSome = true
      by_cases e2 : a.1 = g
      · rw [← e2, valD_pos]; rfl
      · rw [valD_neg (fun z => e2 (pk_inj z))]
        rcases List.mem_cons.mp h with rfl | h
        · exact absurd e1 e2
        · exact ih h
  have := this he
  rw [h] at this
  cases this
theorem came_val (C : Com) (p : Pair) : (valZ (C.map fun e => pk e.1) (C.map fun e => D.lst (e.2.map pairD)) (pk p)).getD (.lst []) = .lst ((comeL C p).map pairD) := by
  unfold comeL
  induction C with
  | nil => rfl
  | cons a C ih =>
    rw [List.map_cons, List.map_cons, List.find?_cons]
    unfold valZ at ih ⊢
    rw [List.zip_cons_cons]
    by_cases e : a.1 = p
    · have e2 : (a.1 == p) = true := beq_iff_eq.mpr e
      rw [e2, ← e, valD_pos]
      rfl
    · have e2 : (a.1 == p) = false := beq_eq_false_iff_ne.mpr e
      rw [valD_neg (fun z => e (pk_inj z)), ih, e2]
theorem rows_set2 {N : Nat} {ra : Nat → Addr} {M : List Pair} {i j : Nat} {a b : Addr × MO} (hi : i < N) (hj : j < N) {μ : Mu} : (a :: b :: (rowsM N ra (inB M) ++ μ)).set (i + 2) (ra i, .lst ((rowL N (inB M) i).set j (.bl true))) = a :: b :: (rowsM N ra (inB (M ++ [(i, j)])) ++ μ) := by
  rw [List.set_cons_succ, List.set_cons_succ, rows_set hi hj]
def S_pairs : FS := fun ds μ Φ => ∃ (m : Mach) (most : Nat), ds = [machD m] ∧ m.Ok most ∧ most ≤ 100 ∧ ∀ q, Φ (.ptr q) ((q, .lst ((pairsN m).map pairD)) :: μ)
def S_came : FS := fun ds μ Φ => ∃ (m : Mach) (most : Nat), ds = [machD m] ∧ m.Ok most ∧ most ≤ 100 ∧ ∀ C, Came m C → Φ (cameD C) μ
def S_tab : FS := fun ds μ Φ => ∃ (m : Mach) (most : Nat), ds = [machD m] ∧ m.Ok most ∧ most ≤ 100 ∧ ∀ T : Pair → Bool, (∀ p, PIn m p → (T p = true ↔ Ptd m p)) → Φ (tabD m.rooms.length T) μ
def S_parted : FS := fun ds μ Φ => ∃ (m : Mach) (most : Nat), ds = [machD m] ∧ m.Ok most ∧ most ≤ 100 ∧ ∀ L q, IsParted m L → Φ (.ptr q) ((q, .lst (L.map pairD)) :: μ)
section
variable {P : Program} {w : World} {K : PySem.W.Frag} {mg : Str → Option Value} {base : Heap}
theorem ok_pairs (B : Src K mg "pairs_of" s_pairs_of ["machine"]) (T : Tx mg) : KnG P w K mg base 1 "pairs_of" ["machine"] S_pairs := by
  refine kn_ofG B sc_pairs_of (fun ds μ Φ h => by obtain ⟨_, _, rfl, _⟩ := h; rfl) fun f cdv A outer s H E grd hr ds μ Φ h => ?_
  obtain ⟨m, most, rfl, hm, hmost, kq⟩ := h
  have hn100 : m.rooms.length ≤ 100 := Nat.le_trans hm.rm hmost
  have hN : m.rooms.length * m.rooms.length ≤ 100 * 100 := Nat.mul_le_mul hn100 hn100
  have hr0 := hm.r0
  -- many = len(machine[1])
  refine w_cons (w_set 1 sc_pairs_of.nd rfl (.inr rfl) (.inl rfl) ?_)
  refine w_callB (id := "len") T.b_len ?_
  refine wa_cons ?_
  refine w_ix ?_
  refine w_name 0 rfl (.inl rfl) rfl ?_
  refine w_int ?_
  refine ix_tupD 1 rfl rfl ?_
  refine wa_nil ?_
  walk_at "c_len"
  rw [List.length_map]
  -- return [(k // many, k % many) for k in range(many * many)]
  refine w_cons (w_ret ?_)
  -- comp [(k // many, k % many) for k in range(many * many)]
  refine id (w_lcM (own := [("k", 2)]) (.one 2) (by decide) rfl sc_pairs_of.nd (blkOk_by (N := N_pairs_of) (sc := defScope s_pairs_of) (by decide +kernel)) (fun _ _ _ _ _ => pg_name (i := 2) sc_pairs_of.nd rfl (by first | exact .inl rfl | exact .inr rfl)) ?_)
  refine wi_rng1 T.b_range ?_
  refine w_bin ?_
  refine w_name 1 rfl (.inr (.inl rfl)) rfl ?_
  refine w_name 1 rfl (.inr (.inl rfl)) rfl ?_
  refine o_mul (.inl ⟨by omega, by omega⟩) ?_
  rw [mul_cast]
  refine ⟨_, rfl, by omega, ?_⟩
  refine ⟨by rw [rngD_len, toNat_natCast']; omega, fun t acc μ2 => acc = ((List.range (m.rooms.length * m.rooms.length)).take t).map (fun k => pairD (k / m.rooms.length, k % m.rooms.length)) ∧ μ2 = μ, ⟨rfl, rfl⟩, ?_, ?_⟩
  · rintro p2 t x acc μ2 hx ⟨rfl, rfl⟩
    obtain ⟨ht, rfl⟩ := rngD_get hx
    rw [toNat_natCast'] at ht
    rw [Int.zero_add (t : Int)]
    have htr : (List.range (m.rooms.length * m.rooms.length))[t]? = some t := List.getElem?_range ht
    refine ⟨_, rfl, fun _ _ _ _ _ => ?_⟩
    refine ⟨fun _ _ _ _ _ _ => ?_, fun hb => (nomatch hb)⟩
    refine w_tup ?_
    refine wa_cons ?_
    refine w_bin ?_
    refine w_name 2 rfl (.inl rfl) rfl ?_
    refine w_name 1 rfl (.inr (.inl rfl)) rfl ?_
    refine o_div ⟨by omega, by omega⟩ ?_
    refine wa_cons ?_
    refine w_bin ?_
    refine w_name 2 rfl (.inl rfl) rfl ?_
    refine w_name 1 rfl (.inr (.inl rfl)) rfl ?_
    refine o_mod (by omega) ?_
    refine wa_nil ?_
    refine ⟨by simp, ?_⟩
    refine ⟨_, rfl, ?_⟩
    exact ⟨tm_next (g := fun k => pairD (k / m.rooms.length, k % m.rooms.length)) htr, rfl⟩
  rintro p2 acc μ2 ⟨rfl, rfl⟩
  rw [List.take_of_length_le (by rw [rngD_len, List.length_range, toNat_natCast']; exact Nat.le_refl _)]
  have epr : (List.range (m.rooms.length * m.rooms.length)).map (fun k => pairD (k / m.rooms.length, k % m.rooms.length)) = (pairsN m).map pairD := by
    unfold pairsN
    rw [List.map_map]
    rfl
  rw [epr]
  exact kq p2
theorem ok_came (B : Src K mg "came_from" s_came_from ["machine"]) (T : Tx mg) (G_pairs_of : KnG P w K mg base 1 "pairs_of" ["machine"] S_pairs) (G_both_go : KnG P w K mg base 1 "both_go" ["machine", "one", "other", "ask"] S_both) : KnG P w K mg base 2 "came_from" ["machine"] S_came := by
  refine kn_ofG B sc_came_from (fun ds μ Φ h => by obtain ⟨_, _, rfl, _⟩ := h; rfl) fun f cdv A outer s H E grd hr ds μ Φ h => ?_
  obtain ⟨m, most, rfl, hm, hmost, kq⟩ := h
  have hu := hu_of hr.r
  have hn100 : m.rooms.length ≤ 100 := Nat.le_trans hm.rm hmost
  have hN : m.rooms.length * m.rooms.length ≤ 100 * 100 := Nat.mul_le_mul hn100 hn100
  have ha4 := hm.a4
  have hpl : (pairsN m).length = m.rooms.length * m.rooms.length := by unfold pairsN; rw [List.length_map, List.length_range]
  -- found = {}
  refine w_cons (w_set 1 sc_came_from.nd rfl (.inl rfl) (.inl rfl) ?_)
  refine w_dnewT fun q => ?_
  -- for one, other in pairs_of(machine):
  refine w_cons (w_for ?_ PassesOwn.never rfl)
  refine wi_lst ?_
  refine w_fz ?_
  refine w_callG G_pairs_of hr ?_
  refine wa_cons ?_
  refine w_name 0 rfl (.inl rfl) rfl ?_
  refine wa_nil ?_
  refine ⟨m, most, rfl, hm, hmost, fun qp => ?_⟩
  refine ⟨0, _, _, rfl, rfl, ?_⟩
  refine ⟨_, rfl, ?_⟩
  refine ⟨fun i ρ' μ' => ∃ E : List Cel, CI m (comOf E) i 0 ∧ μ' = (q, .dt (celD E)) :: (celM E ++ μ) ∧ ∃ x2 x3 x4 x5, ρ' = [some (machD m), some (.ptr q), x2, x3, x4, x5], ⟨[], ci_start m, rfl, _, _, _, _, rfl⟩, ?_, ?_⟩
  · rintro i x ρ' μ' hx ⟨E, hE, rfl, x2, x3, x4, x5, rfl⟩
    obtain ⟨p, hp, rfl⟩ := map_get hx
    have hpin := mem_pairs.mp (List.mem_of_getElem? hp)
    have hil : i < (pairsN m).length := (List.getElem?_eq_some_iff.mp hp).1
    have him : i * m.asks ≤ 10000 * 4 := Nat.mul_le_mul (by omega) ha4
    refine wg_tup rfl rfl ?_
    refine wgs_cons ?_
    refine wg_name 2 sc_came_from.nd rfl (.inl rfl) (.inl rfl) ?_
    refine wgs_cons ?_
    refine wg_name 3 sc_came_from.nd rfl (.inl rfl) (.inl rfl) ?_
    refine wgs_nil ?_
    -- for ask in range(machine[0]):
    refine w_cons (w_for ?_ PassesOwn.never rfl)
    refine wi_rng1 T.b_range ?_
    refine w_ix ?_
    refine w_name 0 rfl (.inl rfl) rfl ?_
    refine w_int ?_
    refine ix_tupD 0 rfl rfl ?_
    refine ⟨_, rfl, by omega, ?_⟩
    refine ⟨fun j ρ' μ' => ∃ E : List Cel, CI m (comOf E) i j ∧ μ' = (q, .dt (celD E)) :: (celM E ++ μ) ∧ ∃ x4 x5, ρ' = [some (machD m), some (.ptr q), some (.int p.1), some (.int p.2), x4, x5], ⟨E, hE, rfl, _, _, rfl⟩, ?_, ?_⟩
    · rintro j x ρ' μ' hx ⟨E, hE, rfl, x4, x5, rfl⟩
      obtain ⟨hj, rfl⟩ := rngD_get hx
      rw [toNat_natCast'] at hj
      rw [Int.zero_add (j : Int)]
      have hEl := hE.le
      have hEl2 : E.length = (comOf E).length := by unfold comOf; rw [List.length_map]
      refine wg_name 4 sc_came_from.nd rfl (.inl rfl) (.inl rfl) ?_
      -- later = both_go(machine, one, other, ask)
      refine w_cons (w_set 5 sc_came_from.nd rfl (.inl rfl) (.inl rfl) ?_)
      refine w_callG G_both_go hr ?_
      refine wa_cons ?_
      refine w_name 0 rfl (.inl rfl) rfl ?_
      refine wa_cons ?_
      refine w_name 2 rfl (.inl rfl) rfl ?_
      refine wa_cons ?_
      refine w_name 3 rfl (.inl rfl) rfl ?_
      refine wa_cons ?_
      refine w_name 4 rfl (.inl rfl) rfl ?_
      refine wa_nil ?_
      refine ⟨m, most, p.1, p.2, j, rfl, hm, hpin, hj, ?_⟩
      -- if later is not None:
      refine w_cons (w_if ?_)
      refine wt_cmp ?_
      refine w_name 5 rfl (.inl rfl) rfl ?_
      refine w_non ?_
      walk_at "IsNot"
      refine ⟨_, rfl, ?_⟩
      refine ⟨fun hb => ?_, fun hb => ?_⟩
      · -- found.setdefault(later, []).append((one, other))
        refine w_cons (w_expr ?_)
        refine w_append ?_
        refine w_mono (Ψ := (fun d μ1 => ∃ (E' : List Cel) (n : Nat) (g : Pair) (c : Addr) (l : List Pair), bothF m p j = some g ∧ (comOf E' = comOf E ∨ (comOf E' = comOf E ++ [(g, [])] ∧ g ∉ (comOf E).map (·.1))) ∧ E'[n]? = some (g, c, l) ∧ d = .ptr c ∧ μ1 = (q, .dt (celD E')) :: (celM E' ++ μ))) ?_ ?_
        · refine w_pm (w_dr ?_)
          refine w_tsetd hu ?_
          refine w_name 1 rfl (.inl rfl) rfl ?_
          refine ⟨q, rfl, ⟨0, _, rfl⟩, ?_⟩
          refine w_name 5 rfl (.inl rfl) rfl ?_
          refine w_lstM ?_
          refine wa_nil ?_
          refine ⟨by simp, fun p_new => ?_⟩
          obtain ⟨g, hg⟩ := po_some hb
          have hpo : poD (bothF m (p.1, p.2) j) = pairD g := by
            show poD (bothF m p j) = _
            have hg : bothF m p j = some g := hg
            rw [hg]
            rfl
          refine ⟨1, _, pk g, hpo, rfl, by unfold celD; rw [List.length_map]; omega, fun d hd => ?_, fun hd => ?_⟩
          · obtain ⟨n, c, l, h1, h2⟩ := cel_val hd
            exact ⟨_, List.sublist_cons_self _ _, _, List.Perm.refl _, E, n, g, c, l, hg, .inl rfl, h1, h2, rfl⟩
          · refine ⟨_, List.Sublist.refl _, (q, .dt (celD (E ++ [(g, p_new, [])]))) :: (celM (E ++ [(g, p_new, [])]) ++ μ), ?_, E ++ [(g, p_new, [])], E.length, g, p_new, [], hg, .inr ⟨?_, cel_none hd⟩, ?_, rfl, rfl⟩
            · rw [putD_new hd]
              have e1 : celD (E ++ [(g, p_new, [])]) = celD E ++ [(pk g, .ptr p_new)] := by unfold celD; rw [List.map_append]; rfl
              have e2 : celM (E ++ [(g, p_new, [])]) ++ μ = celM E ++ (p_new, MO.lst []) :: μ := by unfold celM; rw [List.map_append, List.append_assoc]; rfl
              rw [e1, e2]
              show ((q, MO.dt (celD E ++ [(pk g, .ptr p_new)])) :: (celM E ++ (p_new, MO.lst []) :: μ)).Perm ((p_new, MO.lst []) :: (q, MO.dt (celD E ++ [(pk g, .ptr p_new)])) :: (celM E ++ μ))
              exact (List.Perm.cons _ List.perm_middle).trans (List.Perm.swap _ _ _)
            · unfold comOf; rw [List.map_append]; rfl
            · rw [List.getElem?_append_right (Nat.le_refl _), Nat.sub_self]; rfl
        rintro d μ1 ⟨E', n, g, c, l, hg, hC, hn, rfl, rfl⟩
        have hnC : (comOf E')[n]? = some (g, l) := by unfold comOf; rw [List.getElem?_map, hn]; rfl
        have hput := ci_put hm hE hp hj hg hC hnC
        have hll : l.length ≤ i * m.asks + j + 1 := by
          have := (hput.ok (g, l ++ [p]) (List.mem_of_getElem? (List.getElem?_set_self (List.getElem?_eq_some_iff.mp hnC).1))).2.2
          have this : (l ++ [p]).length ≤ i * m.asks + (j + 1) := this
          rw [List.length_append] at this
          omega
        refine ⟨.inl ⟨rfl, n + 1, _, cel_get hn μ⟩, ?_⟩
        refine wa_cons ?_
        refine w_tup ?_
        refine wa_cons ?_
        refine w_name 2 rfl (.inl rfl) rfl ?_
        refine wa_cons ?_
        refine w_name 3 rfl (.inl rfl) rfl ?_
        refine wa_nil ?_
        refine ⟨by simp, ?_⟩
        refine wa_nil ?_
        refine m_append (n + 1) (cel_get hn μ) (by rw [List.length_map]; show l.length < 1000000; omega) ?_
        refine w_nil ?_
        refine w_nil ?_
        refine ⟨E'.set n (g, c, l ++ [p]), by rw [com_set]; exact hput, ?_, _, _, rfl⟩
        rw [List.set_cons_succ, cel_setD hn]
        exact congrArg _ (cel_set hn p μ)
      · refine w_nil ?_
        refine w_nil ?_
        exact ⟨E, ci_skip hE hp (po_none hb), rfl, _, _, rfl⟩
    rintro ρ' μ' ⟨E, hE, rfl, x4, x5, rfl⟩
    rw [rngD_len, toNat_natCast'] at hE
    refine w_nil ?_
    exact ⟨E, ci_next hE, rfl, _, _, _, _, rfl⟩
  rintro ρ' μ' ⟨E, hE, rfl, x2, x3, x4, x5, rfl⟩
  rw [List.length_map] at hE
  refine wSs_fzD (i := 0) (j := 1) rfl rfl ?_
  have eE1 : (celD E).map (·.1) = (comOf E).map fun e => pk e.1 := by unfold celD comOf; rw [List.map_map, List.map_map]; rfl
  have eE2 : (celD E).map (·.2) = (E.map fun e => (e.2.1, e.2.2.map pairD)).map fun e => D.ptr e.1 := by unfold celD; rw [List.map_map, List.map_map]; rfl
  have eE3 : celM E = (E.map fun e => (e.2.1, e.2.2.map pairD)).map fun e => (e.1, MO.lst e.2) := by unfold celM; rw [List.map_map]; rfl
  have eE4 : ((E.map fun e => (e.2.1, e.2.2.map pairD)).map fun e : Addr × List D => D.lst e.2) = (comOf E).map fun e => D.lst (e.2.map pairD) := by unfold comOf; rw [List.map_map, List.map_map]; rfl
  rw [eE1, eE2]
  refine wSs_fzV (j := 1) (L := E.map fun e => (e.2.1, e.2.2.map pairD)) (μ2 := μ) rfl (by rw [← eE3]; exact List.Perm.refl _) ?_
  rw [eE4]
  -- return found
  refine w_cons (w_ret ?_)
  refine w_name 1 rfl (.inl rfl) rfl ?_
  exact kq (comOf E) (came_of ha4 hN hE)
theorem ok_tab (B : Src K mg "part_table" s_part_table ["machine"]) (T : Tx mg) (G_pairs_of : KnG P w K mg base 1 "pairs_of" ["machine"] S_pairs) (G_are_unlike : KnG P w K mg base 2 "are_unlike" ["machine", "one", "other", "ask"] S_unl) (G_came_from : KnG P w K mg base 2 "came_from" ["machine"] S_came) : KnG P w K mg base 3 "part_table" ["machine"] S_tab := by
  refine kn_ofG B sc_part_table (fun ds μ Φ h => by obtain ⟨_, _, rfl, _⟩ := h; rfl) fun f cdv A outer s H E grd hr ds μ Φ h => ?_
  obtain ⟨m, most, rfl, hm, hmost, kq⟩ := h
  have hu := hu_of hr.r
  have hn100 : m.rooms.length ≤ 100 := Nat.le_trans hm.rm hmost
  have hN : m.rooms.length * m.rooms.length ≤ 100 * 100 := Nat.mul_le_mul hn100 hn100
  have ha4 := hm.a4
  have hpl : (pairsN m).length = m.rooms.length * m.rooms.length := by unfold pairsN; rw [List.length_map, List.length_range]
  have hfull : ∀ n : Nat, (List.range n).take (rngD 0 ((n : Nat) : Int).toNat).length = List.range n := fun n => List.take_of_length_le (by rw [rngD_len, List.length_range, toNat_natCast']; exact Nat.le_refl _)
  -- many = len(machine[1])
  refine w_cons (w_set 1 sc_part_table.nd rfl (.inr rfl) (.inl rfl) ?_)
  refine w_callB (id := "len") T.b_len ?_
  refine wa_cons ?_
  refine w_ix ?_
  refine w_name 0 rfl (.inr (.inl rfl)) rfl ?_
  refine w_int ?_
  refine ix_tupD 1 rfl rfl ?_
  refine wa_nil ?_
  walk_at "c_len"
  rw [List.length_map]
  -- table = [[False] * many for room in range(many)]
  refine w_cons (w_setLc (own := [("room", 3)]) 2 (.one 3) (by decide) rfl sc_part_table.nd rfl rfl (blkOk_by (N := N_part_table) (sc := defScope s_part_table) (by decide +kernel)) (sw_true rfl rfl rfl (by decide +kernel)) (fun _ _ _ _ _ => pg_name (i := 3) sc_part_table.nd rfl (by first | exact .inl rfl | exact .inr rfl)) ?_)
  refine wi_rng1 T.b_range ?_
  refine w_name 1 rfl (.inr (.inl rfl)) rfl ?_
  refine ⟨_, rfl, by omega, ?_⟩
  refine ⟨by rw [rngD_len, toNat_natCast']; omega, fun t acc μ2 => ∃ ra : Nat → Addr, acc = ptrsL t ra ∧ μ2 = ((List.range t).map fun i => (ra i, MO.lst (rowL m.rooms.length (inB []) i))) ++ μ, ⟨fun _ => 0, rfl, rfl⟩, ?_, ?_⟩
  · rintro p2 t x acc μ2 hx ⟨ra, rfl, rfl⟩
    refine ⟨_, rfl, fun _ _ _ _ _ => ?_⟩
    refine ⟨fun _ _ _ _ _ _ => ?_, fun hb => (nomatch hb)⟩
    refine w_pm ?_
    refine w_bin ?_
    refine w_lst ?_
    refine wa_cons ?_
    refine w_bl ?_
    refine wa_nil ?_
    refine ⟨by simp, ?_⟩
    refine w_name 1 rfl (.inr (.inl rfl)) rfl ?_
    refine o_repL (by omega) (by decide) fun r => ?_
    refine ⟨(p2, .lst (ptrsL t ra)) :: (((List.range t).map fun i => (ra i, MO.lst (rowL m.rooms.length (inB []) i))) ++ (r, MO.lst (List.replicate ((m.rooms.length : Nat) : Int).toNat [D.bl false]).flatten) :: μ), (List.Perm.cons _ List.perm_middle).trans (List.Perm.swap _ _ _), _, rfl, ?_⟩
    have hra : ∀ i ∈ List.range t, (if i = t then r else ra i) = ra i := fun i hi => if_neg (by have := List.mem_range.mp hi; omega)
    refine ⟨fun i => if i = t then r else ra i, ?_, ?_⟩
    · show ptrsL t ra ++ [.ptr r] = (List.range (t + 1)).map _
      rw [List.range_succ, List.map_append]
      congr 1
      · exact List.map_congr_left fun i hi => by show D.ptr (ra i) = D.ptr (if i = t then r else ra i); rw [hra i hi]
      · show [D.ptr r] = [D.ptr (if t = t then r else ra t)]
        rw [if_pos rfl]
    · rw [List.range_succ, List.map_append, List.append_assoc]
      congr 1
      · exact List.map_congr_left fun i hi => by show (ra i, _) = (if i = t then r else ra i, _); rw [hra i hi]
      · show _ = (if t = t then r else ra t, MO.lst (rowL m.rooms.length (inB []) t)) :: μ
        rw [if_pos rfl, toNat_natCast']
        have : (List.replicate m.rooms.length [D.bl false]).flatten = rowL m.rooms.length (inB []) t := by
          unfold rowL
          rw [show (fun j => D.bl (inB [] (t, j))) = fun _ : Nat => D.bl false from rfl]
          generalize m.rooms.length = n
          induction n with
          | zero => rfl
          | succ n ih => rw [List.range_succ, List.map_append, ← ih, List.replicate_succ', List.flatten_append]; rfl
        rw [this]
  rintro p2 acc μ2 ⟨ra, rfl, rfl⟩
  rw [rngD_len, toNat_natCast']
  refine ⟨_, _, _, rfl, rfl, .inr ?_⟩
  have erow : ((List.range m.rooms.length).map fun i => (ra i, MO.lst (rowL m.rooms.length (inB []) i))) = rowsM m.rooms.length ra (inB []) := rfl
  rw [erow]
  -- waiting = []
  refine w_cons (w_set 4 sc_part_table.nd rfl (.inl rfl) (.inl rfl) ?_)
  refine w_lstM ?_
  refine wa_nil ?_
  refine ⟨by simp, fun p_waiting => ?_⟩
  -- for one, other in pairs_of(machine):
  refine w_cons (w_for ?_ PassesOwn.never rfl)
  refine wi_lst ?_
  refine w_fz ?_
  refine w_callG G_pairs_of hr ?_
  refine wa_cons ?_
  refine w_name 0 rfl (.inr (.inl rfl)) rfl ?_
  refine wa_nil ?_
  refine ⟨m, most, rfl, hm, hmost, fun qp => ?_⟩
  refine ⟨0, _, _, rfl, rfl, ?_⟩
  refine ⟨_, rfl, ?_⟩
  refine ⟨fun i ρ' μ' => μ' = (p_waiting, .lst ((((pairsN m).take i).filter (dsB m 1)).map pairD)) :: (p2, .lst (ptrsL m.rooms.length ra)) :: (rowsM m.rooms.length ra (inB (((pairsN m).take i).filter (dsB m 1))) ++ μ) ∧ ∃ x3 x5 x6 x7 x8, ρ' = [some (machD m), some (.int m.rooms.length), some (.ptr p2), x3, some (.ptr p_waiting), x5, x6, x7, x8], ⟨rfl, _, _, _, _, _, rfl⟩, ?_, ?_⟩
  · rintro i x ρ' μ' hx ⟨rfl, x3, x5, x6, x7, x8, rfl⟩
    obtain ⟨p, hp, rfl⟩ := map_get hx
    have hpin := mem_pairs.mp (List.mem_of_getElem? hp)
    have hil := (List.getElem?_eq_some_iff.mp hp).1
    refine wg_tup rfl rfl ?_
    refine wgs_cons ?_
    refine wg_name 5 sc_part_table.nd rfl (.inr rfl) (.inl rfl) ?_
    refine wgs_cons ?_
    refine wg_name 6 sc_part_table.nd rfl (.inr rfl) (.inl rfl) ?_
    refine wgs_nil ?_
    -- if any([are_unlike(machine, one, other, ask) for ask in range(machine[0])]):
    refine w_cons (w_if ?_)
    refine wt_val ?_
    refine w_callB (id := "any") T.b_any ?_
    refine wa_cons ?_
    -- comp [are_unlike(machine, one, other, ask) for ask in range(machine[0])]
    refine w_fz (w_lcM (own := [("ask", 7)]) (.one 7) (by decide) rfl sc_part_table.nd (blkOk_by (N := N_part_table) (sc := defScope s_part_table) (by decide +kernel)) (fun _ _ _ _ _ => pg_name (i := 7) sc_part_table.nd rfl (by first | exact .inl rfl | exact .inr rfl)) ?_)
    refine wi_rng1 T.b_range ?_
    refine w_ix ?_
    refine w_name 0 rfl (.inr (.inl rfl)) rfl ?_
    refine w_int ?_
    refine ix_tupD 0 rfl rfl ?_
    refine ⟨_, rfl, by omega, ?_⟩
    refine ⟨by rw [rngD_len]; omega, fun t acc μ3 => acc = ((List.range m.asks).take t).map (fun k => D.bl (unlB m p k)) ∧ μ3 = (p_waiting, .lst ((((pairsN m).take i).filter (dsB m 1)).map pairD)) :: (p2, .lst (ptrsL m.rooms.length ra)) :: (rowsM m.rooms.length ra (inB (((pairsN m).take i).filter (dsB m 1))) ++ μ), ⟨rfl, rfl⟩, ?_, ?_⟩
    · rintro p3 t x acc μ3 hx2 ⟨rfl, rfl⟩
      obtain ⟨ht, rfl⟩ := rngD_get hx2
      rw [toNat_natCast'] at ht
      rw [Int.zero_add (t : Int)]
      have htr : (List.range m.asks)[t]? = some t := List.getElem?_range ht
      refine ⟨_, rfl, fun _ _ _ _ _ => ?_⟩
      refine ⟨fun _ _ _ _ _ _ => ?_, fun hb => (nomatch hb)⟩
      refine w_callG G_are_unlike hr ?_
      refine wa_cons ?_
      refine w_name 0 rfl (.inr (.inl rfl)) rfl ?_
      refine wa_cons ?_
      refine w_name 5 rfl (.inr (.inl rfl)) rfl ?_
      refine wa_cons ?_
      refine w_name 6 rfl (.inr (.inl rfl)) rfl ?_
      refine wa_cons ?_
      refine w_name 7 rfl (.inl rfl) rfl ?_
      refine wa_nil ?_
      refine ⟨m, most, p.1, p.2, t, rfl, hm, hpin, ht, ?_⟩
      refine ⟨_, rfl, ?_⟩
      exact ⟨tm_next (g := fun k => D.bl (unlB m p k)) htr, rfl⟩
    rintro p3 acc μ3 ⟨rfl, rfl⟩
    rw [hfull, show (List.range m.asks).map (fun k => D.bl (unlB m p k)) = ((List.range m.asks).map (unlB m p)).map D.bl from by rw [List.map_map]; rfl]
    refine ⟨0, _, _, rfl, rfl, ?_⟩
    refine wa_nil ?_
    rw [List.eraseIdx_cons_zero]
    refine c_anyL ?_
    have eany : ((List.range m.asks).map (unlB m p)).any id = dsB m 1 p := by rw [List.any_map, ds_one]; rfl
    rw [eany]
    refine ⟨_, rfl, ?_⟩
    refine ⟨fun hb => ?_, fun hb => ?_⟩
    · -- table[one][other] = True
      refine w_cons (w_lset ?_)
      refine w_bl ?_
      refine w_ix ?_
      refine w_name 2 rfl (.inl rfl) rfl ?_
      refine w_name 5 rfl (.inr (.inl rfl)) rfl ?_
      refine ix_ptrD 1 rfl p.1 rfl (by rw [List.getElem?_map, List.getElem?_range hpin.1]; rfl) ?_
      refine w_name 6 rfl (.inr (.inl rfl)) rfl ?_
      refine ⟨ra p.1, p.1 + 2, _, p.2, rfl, rfl, rows_at hpin.1 μ, by unfold rowL; rw [List.length_map, List.length_range]; exact hpin.2, ?_⟩
      rw [rows_set2 hpin.1 hpin.2]
      -- waiting.append((one, other))
      refine w_cons (w_expr ?_)
      refine w_append ?_
      refine w_name 4 rfl (.inl rfl) rfl ?_
      refine ⟨.inl ⟨rfl, 0, _, rfl⟩, ?_⟩
      refine wa_cons ?_
      refine w_tup ?_
      refine wa_cons ?_
      refine w_name 5 rfl (.inr (.inl rfl)) rfl ?_
      refine wa_cons ?_
      refine w_name 6 rfl (.inr (.inl rfl)) rfl ?_
      refine wa_nil ?_
      refine ⟨by simp, ?_⟩
      refine wa_nil ?_
      refine m_append 0 rfl (Nat.lt_of_le_of_lt (by rw [List.length_map]; exact Nat.le_trans (List.length_filter_le _ _) (List.length_take_le _ _)) (show i < 1000000 by omega)) ?_
      refine w_nil ?_
      refine w_nil ?_
      have efm := fm_yes (g := fun p : Pair => p) hp hb
      rw [List.map_id', List.map_id'] at efm
      refine ⟨?_, _, _, _, _, _, rfl⟩
      rw [← efm, List.map_append]
      rfl
    · refine w_nil ?_
      refine w_nil ?_
      have efm := fm_no (g := fun p : Pair => p) hp hb
      rw [List.map_id', List.map_id'] at efm
      refine ⟨?_, _, _, _, _, _, rfl⟩
      rw [← efm]
  rintro ρ' μ' ⟨rfl, x3, x5, x6, x7, x8, rfl⟩
  rw [List.length_map, List.take_of_length_le (Nat.le_refl _)]
  have ehere : (pairsN m).filter (dsB m 1) = hereL m 1 := rfl
  rw [ehere]
  -- come = came_from(machine)
  refine w_cons (w_set 8 sc_part_table.nd rfl (.inl rfl) (.inl rfl) ?_)
  refine w_callG G_came_from hr ?_
  refine wa_cons ?_
  refine w_name 0 rfl (.inr (.inl rfl)) rfl ?_
  refine wa_nil ?_
  refine ⟨m, most, rfl, hm, hmost, fun C hC => ?_⟩
  -- while waiting != []:
  refine w_cons (w_while (fun mm ρ' μ' => ∃ (M W : List Pair) (c : Nat), mm = m.rooms.length * m.rooms.length - c ∧ WI m M W c ∧ μ' = (p_waiting, .lst (W.map pairD)) :: (p2, .lst (ptrsL m.rooms.length ra)) :: (rowsM m.rooms.length ra (inB M) ++ μ) ∧ ∃ x3 x5 x6 x7, ρ' = [some (machD m), some (.int m.rooms.length), some (.ptr p2), x3, some (.ptr p_waiting), x5, x6, x7, some (cameD C)]) (m.rooms.length * m.rooms.length) ⟨hereL m 1, hereL m 1, 0, rfl, wi_start m, rfl, _, _, _, _, rfl⟩ (fun mm ρ' μ' hI => ?_) PassesOwn.never)
  -- WHILE
  obtain ⟨M, W, c, rfl, hWI, rfl, x3, x5, x6, x7, rfl⟩ := hI
  have hMl := hWI.le
  have hcnt := hWI.cnt
  refine wt_cmp ?_
  refine w_name 4 rfl (.inl rfl) rfl ?_
  refine w_lst ?_
  refine wa_nil ?_
  refine ⟨by simp, ?_⟩
  refine o_neP (m := 0) rfl hr.units (Lys.map (n := 1) fun p _ => ly_pair p) Lys.nil ?_
  have e5 : (!PyData.eqv (D.lst (W.map pairD)).py (D.lst []).py) = !W.isEmpty := by rw [eqv_nil, List.isEmpty_map]
  rw [e5]
  refine ⟨_, rfl, ?_⟩
  refine ⟨fun hb => ?_, fun hb => ?_⟩
  · -- for one, other in come.get(waiting.pop(), []):
    refine w_cons (w_for ?_ PassesOwn.never rfl)
    refine wi_lst ?_
    refine w_zget2 hu ?_
    refine w_name 8 rfl (.inl rfl) rfl ?_
    refine ⟨_, _, rfl, ?_⟩
    obtain ⟨W, p, rfl⟩ : ∃ W' p, W = W' ++ [p] := by
      have hne : W ≠ [] := fun e => by subst e; cases hb
      exact ⟨_, _, (List.dropLast_concat_getLast hne).symm⟩
    have hWl : (W ++ [p]).length = W.length + 1 := by rw [List.length_append]; rfl
    have hpM := hWI.inM p (hWI.sub p (List.mem_append_right _ List.mem_cons_self))
    obtain ⟨hc1, hc2, hc3⟩ := come_mem hC p
    refine w_pop ?_
    refine w_name 4 rfl (.inl rfl) rfl ?_
    refine ⟨.inl ⟨rfl, 0, _, rfl⟩, ?_⟩
    refine m_pop 0 rfl (d := pairD p) (by rw [List.length_map, List.length_append, List.map_append]; show (W.map pairD ++ [pairD p])[W.length + 1 - 1]? = _; rw [Nat.add_sub_cancel, List.getElem?_append_right (by rw [List.length_map]; exact Nat.le_refl _), List.length_map, Nat.sub_self]; rfl) ?_
    have edl : ((W ++ [p]).map pairD).dropLast = W.map pairD := by rw [List.map_append]; exact List.dropLast_concat
    rw [edl]
    refine w_lst ?_
    refine wa_nil ?_
    refine ⟨by simp, ?_⟩
    refine ⟨pk p, rfl, ?_⟩
    rw [came_val]
    refine ⟨_, rfl, ?_⟩
    refine ⟨fun i ρ' μ' => ∃ (M W : List Pair), WJ m M W c p (comeL C p) i ∧ μ' = (p_waiting, .lst (W.map pairD)) :: (p2, .lst (ptrsL m.rooms.length ra)) :: (rowsM m.rooms.length ra (inB M) ++ μ) ∧ ∃ x3 x5 x6 x7, ρ' = [some (machD m), some (.int m.rooms.length), some (.ptr p2), x3, some (.ptr p_waiting), x5, x6, x7, some (cameD C)], ⟨M, W, wj_start hWI, rfl, _, _, _, _, rfl⟩, ?_, ?_⟩
    · rintro i x ρ' μ' hx ⟨M, W, hWJ, rfl, x3, x5, x6, x7, rfl⟩
      obtain ⟨g, hg, rfl⟩ := map_get hx
      obtain ⟨hgin, k, hk, hbk⟩ := hc1 g (List.mem_of_getElem? hg)
      have hMl2 := hWJ.le
      have hcnt2 := hWJ.cnt
      refine wg_tup rfl rfl ?_
      refine wgs_cons ?_
      refine wg_name 5 sc_part_table.nd rfl (.inr rfl) (.inl rfl) ?_
      refine wgs_cons ?_
      refine wg_name 6 sc_part_table.nd rfl (.inr rfl) (.inl rfl) ?_
      refine wgs_nil ?_
      -- if not table[one][other]:
      refine w_cons (w_if ?_)
      refine wt_not ?_
      refine wt_val ?_
      refine w_ix ?_
      refine w_ix ?_
      refine w_name 2 rfl (.inl rfl) rfl ?_
      refine w_name 5 rfl (.inr (.inl rfl)) rfl ?_
      refine ix_ptrD 1 rfl g.1 rfl (by rw [List.getElem?_map, List.getElem?_range hgin.1]; rfl) ?_
      refine w_name 6 rfl (.inr (.inl rfl)) rfl ?_
      refine ix_ptrD (g.1 + 2) (rows_at hgin.1 μ) g.2 rfl (rowL_get hgin.2) ?_
      refine ⟨_, rfl, ?_⟩
      refine ⟨fun hb => ?_, fun hb => ?_⟩
      · -- table[one][other] = True
        refine w_cons (w_lset ?_)
        refine w_bl ?_
        refine w_ix ?_
        refine w_name 2 rfl (.inl rfl) rfl ?_
        refine w_name 5 rfl (.inr (.inl rfl)) rfl ?_
        refine ix_ptrD 1 rfl g.1 rfl (by rw [List.getElem?_map, List.getElem?_range hgin.1]; rfl) ?_
        refine w_name 6 rfl (.inr (.inl rfl)) rfl ?_
        refine ⟨ra g.1, g.1 + 2, _, g.2, rfl, rfl, rows_at hgin.1 μ, by unfold rowL; rw [List.length_map, List.length_range]; exact hgin.2, ?_⟩
        rw [rows_set2 hgin.1 hgin.2]
        -- waiting.append((one, other))
        refine w_cons (w_expr ?_)
        refine w_append ?_
        refine w_name 4 rfl (.inl rfl) rfl ?_
        refine ⟨.inl ⟨rfl, 0, _, rfl⟩, ?_⟩
        refine wa_cons ?_
        refine w_tup ?_
        refine wa_cons ?_
        refine w_name 5 rfl (.inr (.inl rfl)) rfl ?_
        refine wa_cons ?_
        refine w_name 6 rfl (.inr (.inl rfl)) rfl ?_
        refine wa_nil ?_
        refine ⟨by simp, ?_⟩
        refine wa_nil ?_
        refine m_append 0 rfl (by rw [List.length_map]; omega) ?_
        refine w_nil ?_
        refine w_nil ?_
        have hno : g ∉ M := fun h => by
          have h2 : inB M g = true := inB_iff.mpr h
          have hb : (!inB M (g.1, g.2)) = true := hb
          rw [show ((g.1, g.2) : Pair) = g from rfl, h2] at hb
          cases hb
        refine ⟨M ++ [g], W ++ [g], wj_new hWJ hg hno hgin (ptd_step hk hbk hpM.2), ?_, _, _, _, _, rfl⟩
        rw [List.map_append]
        rfl
      · refine w_nil ?_
        refine w_nil ?_
        have hyes : g ∈ M := by
          have hb : (!inB M (g.1, g.2)) = false := hb
          rw [Bool.not_eq_false'] at hb
          exact inB_iff.mp hb
        exact ⟨M, W, wj_old hWJ hg hyes, rfl, _, _, _, _, rfl⟩
    rintro ρ' μ' ⟨M, W, hWJ, rfl, x3, x5, x6, x7, rfl⟩
    rw [List.length_map] at hWJ
    refine w_nil ?_
    exact ⟨m.rooms.length * m.rooms.length - (c + 1), by omega, M, W, c + 1, rfl, wj_end hWJ hc2, rfl, _, _, _, _, rfl⟩
  -- return table
  refine w_cons (w_ret (w_dr (w_fzT ?_)))
  refine w_name 2 rfl (.inl rfl) rfl ?_
  obtain rfl : W = [] := by
    cases W with
    | nil => rfl
    | cons a l => cases hb
  have eL : ptrsL m.rooms.length ra = ((List.range m.rooms.length).map fun i => (ra i, rowL m.rooms.length (inB M) i)).map fun e : Addr × List D => D.ptr e.1 := by rw [List.map_map]; rfl
  have eR : rowsM m.rooms.length ra (inB M) = ((List.range m.rooms.length).map fun i => (ra i, rowL m.rooms.length (inB M) i)).map fun e : Addr × List D => (e.1, MO.lst e.2) := by unfold rowsM; rw [List.map_map]; rfl
  have eT : D.lst (((List.range m.rooms.length).map fun i => (ra i, rowL m.rooms.length (inB M) i)).map fun e : Addr × List D => D.lst e.2) = tabD m.rooms.length (inB M) := by unfold tabD; rw [List.map_map]; rfl
  refine ⟨p2, (List.range m.rooms.length).map fun i => (ra i, rowL m.rooms.length (inB M) i), (p_waiting, MO.lst (([] : List Pair).map pairD)) :: μ, rfl, ?_, μ, List.sublist_cons_self _ _, ?_⟩
  · rw [eL, eR]
    exact (List.Perm.cons _ List.perm_middle).trans (List.Perm.swap _ _ _)
  · rw [eT]
    exact kq (inB M) fun p hp => inB_iff.trans (wi_end hm hWI hp)
theorem ok_parted (B : Src K mg "parted" s_parted ["machine"]) (T : Tx mg) (G_pairs_of : KnG P w K mg base 1 "pairs_of" ["machine"] S_pairs) (G_part_table : KnG P w K mg base 3 "part_table" ["machine"] S_tab) : KnG P w K mg base 4 "parted" ["machine"] S_parted := by
  refine kn_ofG B sc_parted (fun ds μ Φ h => by obtain ⟨_, _, rfl, _⟩ := h; rfl) fun f cdv A outer s H E grd hr ds μ Φ h => ?_
  obtain ⟨m, most, rfl, hm, hmost, kq⟩ := h
  have hn100 : m.rooms.length ≤ 100 := Nat.le_trans hm.rm hmost
  have hN : m.rooms.length * m.rooms.length ≤ 100 * 100 := Nat.mul_le_mul hn100 hn100
  have hpl : (pairsN m).length = m.rooms.length * m.rooms.length := by unfold pairsN; rw [List.length_map, List.length_range]
  -- table = part_table(machine)
  refine w_cons (w_set 1 sc_parted.nd rfl (.inr rfl) (.inl rfl) ?_)
  refine w_callG G_part_table hr ?_
  refine wa_cons ?_
  refine w_name 0 rfl (.inl rfl) rfl ?_
  refine wa_nil ?_
  refine ⟨m, most, rfl, hm, hmost, fun Tb hT => ?_⟩
  -- return [(one, other) for one, other in pairs_of(machine) if one < other and table[one][other]]
  refine w_cons (w_ret ?_)
  -- comp [(one, other) for one, other in pairs_of(machine) if one < other and table[one][other]]
  refine id (w_lcM (own := [("one", 2), ("other", 3)]) (.two 2 3) (by decide) rfl sc_parted.nd (blkOk_by (N := N_parted) (sc := defScope s_parted) (by decide +kernel)) (fun _ _ _ _ _ => pg_tup rfl (pgs_cons (pg_name (i := 2) sc_parted.nd rfl (by first | exact .inl rfl | exact .inr rfl)) (pgs_cons (pg_name (i := 3) sc_parted.nd rfl (by first | exact .inl rfl | exact .inr rfl)) pgs_nil))) ?_)
  refine wi_lst ?_
  refine w_fz ?_
  refine w_callG G_pairs_of hr ?_
  refine wa_cons ?_
  refine w_name 0 rfl (.inl rfl) rfl ?_
  refine wa_nil ?_
  refine ⟨m, most, rfl, hm, hmost, fun qp => ?_⟩
  refine ⟨0, _, _, rfl, rfl, ?_⟩
  refine ⟨_, rfl, ?_⟩
  refine ⟨by rw [List.length_map]; omega, fun t acc μ2 => acc = (((pairsN m).take t).filter fun p => decide (p.1 < p.2) && Tb p).map pairD ∧ μ2 = μ, ⟨rfl, rfl⟩, ?_, ?_⟩
  · rintro p2 t x acc μ2 hx ⟨rfl, rfl⟩
    obtain ⟨p, hp, rfl⟩ := map_get hx
    have hpin := mem_pairs.mp (List.mem_of_getElem? hp)
    have elt : decide ((p.1 : Int) < (p.2 : Int)) = decide (p.1 < p.2) := by rw [Bool.eq_iff_iff, decide_eq_true_iff, decide_eq_true_iff]; omega
    refine ⟨_, rfl, fun _ _ _ _ _ => ?_⟩
    refine wt_b ((decide (p.1 < p.2) && Tb p)) ?_ ?_
    · refine wt_w ?_
      refine ww_and ?_
      refine wt_cmp ?_
      refine w_name 2 rfl (.inl rfl) rfl ?_
      refine w_name 3 rfl (.inl rfl) rfl ?_
      refine o_lt ?_
      rw [elt]
      refine ⟨_, rfl, ?_⟩
      refine ⟨fun hb0 => ?_, fun hb0 => ⟨(by rw [hb0]; rfl), rfl⟩⟩
      refine ww_and1 ?_
      refine wt_val ?_
      refine w_ix ?_
      refine w_ix ?_
      refine w_name 1 rfl (.inr (.inl rfl)) rfl ?_
      refine w_name 2 rfl (.inl rfl) rfl ?_
      refine ix_lstD p.1 rfl (tab_get hpin.1) ?_
      refine w_name 3 rfl (.inl rfl) rfl ?_
      refine ix_lstD p.2 rfl (rowL_get hpin.2) ?_
      refine ⟨_, rfl, ?_⟩
      exact ⟨(by rw [hb0]; rfl), rfl⟩
    refine ⟨fun hb => ?_, fun hb => ?_⟩
    · intro _ _ _ _ _
      refine w_tup ?_
      refine wa_cons ?_
      refine w_name 2 rfl (.inl rfl) rfl ?_
      refine wa_cons ?_
      refine w_name 3 rfl (.inl rfl) rfl ?_
      refine wa_nil ?_
      refine ⟨by simp, ?_⟩
      refine ⟨_, rfl, ?_⟩
      exact ⟨fm_yes hp hb, rfl⟩
    · refine ⟨_, rfl, ?_⟩
      exact ⟨fm_no hp hb, rfl⟩
  rintro p2 acc μ2 ⟨rfl, rfl⟩
  rw [List.length_map, List.take_of_length_le (Nat.le_refl _)]
  exact kq _ p2 (parted_tab hT)
end
end L09

namespace L09
open PySem PySem.Spec L2 Oc
open Evl (Ex)
local macro_rules | `(tactic| walk_at "s") => `(tactic| first | assumption | omega | decide | (simp only [] at *; omega))
local macro_rules | `(tactic| walk_at "Add") => `(tactic| first | refine o_add ?_ | refine o_addS (by walk_at "s") ?_ | refine o_addT (by walk_at "s") ?_ | refine o_addL (by walk_at "s") ?_)
local macro_rules | `(tactic| walk_at "Sub") => `(tactic| refine o_sub ?_)
local macro_rules | `(tactic| walk_at "Mult") => `(tactic| refine o_mul (by walk_at "s") ?_)
local macro_rules | `(tactic| walk_at "Mod") => `(tactic| first | refine o_mod (by walk_at "s") ?_)
local macro_rules | `(tactic| walk_at "FloorDiv") => `(tactic| first | refine o_div (by walk_at "s") ?_)
local macro_rules | `(tactic| walk_at "Pow") => `(tactic| refine o_pow (by walk_at "s") ?_)
local macro_rules | `(tactic| walk_at "LShift") => `(tactic| refine o_shl (by walk_at "s") ?_)
local macro_rules | `(tactic| walk_at "RShift") => `(tactic| refine o_shr (by walk_at "s") ?_)
local macro_rules | `(tactic| walk_at "BitAnd") => `(tactic| refine o_band ?_)
local macro_rules | `(tactic| walk_at "BitXor") => `(tactic| refine o_bxor ?_)
local macro_rules | `(tactic| walk_at "BitOr") => `(tactic| refine o_bor ?_)
local macro_rules | `(tactic| walk_at "Lt") => `(tactic| refine o_lt ?_)
local macro_rules | `(tactic| walk_at "LtE") => `(tactic| refine o_le ?_)
local macro_rules | `(tactic| walk_at "Gt") => `(tactic| refine o_gt ?_)
local macro_rules | `(tactic| walk_at "GtE") => `(tactic| refine o_ge ?_)
local macro_rules | `(tactic| walk_at "Eq") => `(tactic| refine o_eq (by rfl) ?_)
local macro_rules | `(tactic| walk_at "NotEq") => `(tactic| refine o_ne (by rfl) ?_)
local macro_rules | `(tactic| walk_at "Is") => `(tactic| refine o_isN ?_)
local macro_rules | `(tactic| walk_at "IsNot") => `(tactic| refine o_notN ?_)
local macro_rules | `(tactic| walk_at "In") => `(tactic| refine o_in (by first | exact .inl rfl | exact .inr (.inl rfl) | exact .inr (.inr rfl)) (by rfl) (by rfl) ?_)
local macro_rules | `(tactic| walk_at "NotIn") => `(tactic| refine o_nin (by first | exact .inl rfl | exact .inr (.inl rfl) | exact .inr (.inr rfl)) (by rfl) (by rfl) ?_)
local macro_rules | `(tactic| walk_at "c_abs") => `(tactic| refine c_abs ?_)
local macro_rules | `(tactic| walk_at "c_len") => `(tactic| first | refine c_lenL ?_ | refine c_lenC ?_ | refine c_lenT ?_ | refine c_lenS (by walk_at "s") ?_ | refine c_lenP 0 (by first | assumption | rfl) ?_)
local macro_rules | `(tactic| walk_at "c_str") => `(tactic| refine c_str (by walk_at "s") ?_)
local macro_rules | `(tactic| walk_at "c_isinstance") => `(tactic| refine c_isi rfl (by rfl) ?_)
local macro_rules | `(tactic| walk_at "sl") => `(tactic| first | refine sd_tup ?_ | refine sd_lst ?_)
local macro_rules | `(tactic| walk_at "c_tuple") => `(tactic| first | refine c_tupL ?_ | refine c_tupP 0 (by first | assumption | rfl) ?_ | refine c_tupT ?_)
local macro_rules | `(tactic| walk_at "c_int") => `(tactic| first | refine c_intB ?_)
local macro_rules | `(tactic| walk_at "USub") => `(tactic| refine u_neg ?_)
local macro_rules | `(tactic| walk_at "pen") => `(tactic| first | assumption | exact get_set (by assumption) | exact get_set (get_set (by assumption)) | exact get_here | (apply get_cons; walk_at "pen") | (apply get_app; walk_at "pen"))
local macro_rules | `(tactic| walk_at "mu") => `(tactic| simp only [List.set_cons_succ, List.set_set, List.set_cons_zero])
/-! ### k06: the walk -/
def S_first : FS := fun ds μ Φ => ∃ (m : Mach) (most L : Nat) (q : Addr) (i a b : Nat), ds = [machD m, .ptr q, .int a, .int b] ∧ m.Ok most ∧ most ≤ 100 ∧ PIn m (a, b) ∧ μ[i]? = some (q, .dt (farT m L)) ∧ Whole m L ∧ L ≤ 10001 ∧ ∀ res, Res m (a, b) res → Φ (roD res) μ
section
variable {P : Program} {w : World} {K : PySem.W.Frag} {mg : Str → Option Value} {base : Heap}
theorem ok_first (B : Src K mg "_law_first" s__law_first ["_law_machine_here", "_law_far_here", "_law_one", "_law_other"]) (T : Tx mg) (G__law_unlike : KnG P w K mg base 1 "_law_unlike" ["_law_machine_here", "_law_one", "_law_other", "_law_ask"] S_unl) (G__law_both : KnG P w K mg base 1 "_law_both" ["_law_machine_here", "_law_one", "_law_other", "_law_ask"] S_both) :
    KnG P w K mg base 2 "_law_first" ["_law_machine_here", "_law_far_here", "_law_one", "_law_other"] S_first := by
  refine kn_ofG B sc__law_first (fun ds μ Φ h => by obtain ⟨_, _, _, _, _, _, _, rfl, _⟩ := h; rfl) fun f cdv A outer s H E grd hr ds μ Φ h => ?_
  obtain ⟨m, most, L, q, i, a, b, rfl, hm, hmost, hp, hmi, hW, hL, kq⟩ := h
  have hu := hu_of hr.r
  have ha4 := hm.a4
  have hfull : ∀ n : Nat, (List.range n).take (rngD 0 ((n : Nat) : Int).toNat).length = List.range n := fun n => List.take_of_length_le (by rw [rngD_len, List.length_range, toNat_natCast']; exact Nat.le_refl _)
  -- if (_law_one, _law_other) not in _law_far_here:
  refine w_cons (w_if ?_)
  refine wt_tnin hu ?_
  refine w_tup ?_
  refine wa_cons ?_
  refine w_name 2 rfl (.inr (.inl rfl)) rfl ?_
  refine wa_cons ?_
  refine w_name 3 rfl (.inr (.inl rfl)) rfl ?_
  refine wa_nil ?_
  refine ⟨by simp, ?_⟩
  refine w_name 1 rfl (.inl rfl) rfl ?_
  refine ⟨q, i, _, pk (a, b), rfl, rfl, hmi, ?_⟩
  rw [far_some]
  refine ⟨fun hb => ?_, fun hb => ?_⟩
  · -- return None
    refine w_cons (w_ret ?_)
    refine w_non ?_
    refine kq none fun row hrow => ?_
    obtain ⟨n, hn, _⟩ := ds_of hrow
    rw [Bool.not_eq_true', List.any_eq_false] at hb
    exact hb ((a, b), n) (mem_far.mpr ⟨hp, hn, hW n _ hp hn⟩) (beq_self_eq_true _)
  refine w_nil ?_
  -- _law_row = ()
  refine w_cons (w_set 4 sc__law_first.nd rfl (.inl rfl) (.inl rfl) ?_)
  refine w_tup ?_
  refine wa_nil ?_
  refine ⟨by simp, ?_⟩
  obtain ⟨n0, hn0⟩ : ∃ n0, dsB m (n0 + 1) (a, b) = true := by
    rw [Bool.not_eq_false'] at hb
    obtain ⟨e, he, e2⟩ := List.any_eq_true.mp hb
    rw [beq_iff_eq] at e2
    obtain ⟨_, h2, _⟩ := mem_far.mp he
    rw [e2] at h2
    have := ds_pos h2
    exact ⟨e.2 - 1, by rw [show e.2 - 1 + 1 = e.2 by omega]; exact h2⟩
  obtain ⟨hbest, hblen⟩ := first_best n0 (a, b) hn0
  have hn0L := hW _ _ hp hn0
  -- while _law_far_here[_law_one, _law_other] > 1:
  refine w_cons (w_while (fun mm ρ' μ' => ∃ (p : Pair) (n : Nat) (r : List Nat), n = mm ∧ PIn m p ∧ dsB m (n + 1) p = true ∧ r ++ firstF m (n + 1) p = firstF m (n0 + 1) (a, b) ∧ r.length + (n + 1) = n0 + 1 ∧ μ' = μ ∧ ∃ x5 x6 x7, ρ' = [some (machD m), some (.ptr q), some (.int p.1), some (.int p.2), some (rowD r), x5, x6, x7]) n0 ⟨(a, b), n0, [], rfl, hp, hn0, rfl, by show 0 + (n0 + 1) = _; omega, rfl, _, _, _, rfl⟩ (fun mm ρ' μ' hI => ?_) PassesOwn.never)
  -- WHILE
  obtain ⟨p, n, r, rfl, hpin, hdn, hrr, hrl, rfl, x5, x6, x7, rfl⟩ := hI
  refine wt_cmp ?_
  refine w_tget hu ?_
  refine w_name 1 rfl (.inl rfl) rfl ?_
  refine w_tup ?_
  refine wa_cons ?_
  refine w_name 2 rfl (.inr (.inl rfl)) rfl ?_
  refine wa_cons ?_
  refine w_name 3 rfl (.inr (.inl rfl)) rfl ?_
  refine wa_nil ?_
  refine ⟨by simp, ?_⟩
  refine ⟨q, i, _, pk p, _, rfl, rfl, hmi, far_val hpin hdn (hW _ _ hpin hdn), ?_⟩
  refine w_int ?_
  walk_at "Gt"
  refine ⟨_, rfl, ?_⟩
  refine ⟨fun hb => ?_, fun hb => ?_⟩
  · -- _law_asks = []
    refine w_cons (w_set 5 sc__law_first.nd rfl (.inl rfl) (.inl rfl) ?_)
    refine w_lstM ?_
    refine wa_nil ?_
    refine ⟨by simp, fun p_asks => ?_⟩
    obtain ⟨n, rfl⟩ : ∃ n', n = n' + 1 := ⟨n - 1, by have := of_decide_eq_true hb; omega⟩
    -- for _law_ask in range(_law_machine_here[0]):
    refine w_cons (w_for ?_ PassesOwn.never rfl)
    refine wi_rng1 T.b_range ?_
    refine w_ix ?_
    refine w_name 0 rfl (.inr (.inl rfl)) rfl ?_
    refine w_int ?_
    refine ix_tupD 0 rfl rfl ?_
    refine ⟨_, rfl, by omega, ?_⟩
    refine ⟨fun j ρ' μ1 => μ1 = (p_asks, .lst ((((List.range m.asks).take j).filter (okK m (n + 1) p)).map (fun a : Nat => D.int a))) :: μ' ∧ ∃ x6 x7, ρ' = [some (machD m), some (.ptr q), some (.int p.1), some (.int p.2), some (rowD r), some (.ptr p_asks), x6, x7], ⟨rfl, _, _, rfl⟩, ?_, ?_⟩
    · rintro j x ρ' μ1 hx ⟨rfl, x6, x7, rfl⟩
      obtain ⟨hj, rfl⟩ := rngD_get hx
      rw [toNat_natCast'] at hj
      rw [Int.zero_add (j : Int)]
      have hjr : (List.range m.asks)[j]? = some j := List.getElem?_range hj
      refine wg_name 6 sc__law_first.nd rfl (.inl rfl) (.inl rfl) ?_
      -- _law_pair = _law_both(_law_machine_here, _law_one, _law_other, _law_ask)
      refine w_cons (w_set 7 sc__law_first.nd rfl (.inl rfl) (.inl rfl) ?_)
      refine w_callG G__law_both hr ?_
      refine wa_cons ?_
      refine w_name 0 rfl (.inr (.inl rfl)) rfl ?_
      refine wa_cons ?_
      refine w_name 2 rfl (.inr (.inl rfl)) rfl ?_
      refine wa_cons ?_
      refine w_name 3 rfl (.inr (.inl rfl)) rfl ?_
      refine wa_cons ?_
      refine w_name 6 rfl (.inl rfl) rfl ?_
      refine wa_nil ?_
      refine ⟨m, most, p.1, p.2, j, rfl, hm, hpin, hj, ?_⟩
      -- if _law_pair is not None and _law_far_here.get(_law_pair, 0) == _law_far_here[_law_one, _law_other] - 1:
      refine w_cons (w_if ?_)
      refine wt_b ((okK m (n + 1) p j)) ?_ ?_
      · refine wt_w ?_
        refine ww_and ?_
        refine wt_cmp ?_
        refine w_name 7 rfl (.inl rfl) rfl ?_
        refine w_non ?_
        walk_at "IsNot"
        refine ⟨_, rfl, ?_⟩
        refine ⟨fun hb0 => ?_, fun hb0 => ⟨(by unfold okK; rw [po_none hb0]; rfl), rfl⟩⟩
        refine ww_and1 ?_
        refine wt_cmp ?_
        refine w_tget2 hu ?_
        refine w_name 1 rfl (.inl rfl) rfl ?_
        refine ⟨q, rfl, ⟨i + 1, _, hmi⟩, ?_⟩
        refine w_name 7 rfl (.inl rfl) rfl ?_
        refine w_int ?_
        obtain ⟨g, hg⟩ := po_some hb0
        have hgin := both_in hm hpin hj hg
        obtain ⟨d, hd1, hd2⟩ := far_get (n := n + 1) hgin hW (Nat.succ_pos _)
        have hpo : poD (bothF m p j) = pairD g := by rw [hg]; rfl
        refine ⟨i + 1, _, pk g, hpo, hmi, ?_⟩
        rw [hd1]
        refine w_bin ?_
        refine w_tget hu ?_
        refine w_name 1 rfl (.inl rfl) rfl ?_
        refine w_tup ?_
        refine wa_cons ?_
        refine w_name 2 rfl (.inr (.inl rfl)) rfl ?_
        refine wa_cons ?_
        refine w_name 3 rfl (.inr (.inl rfl)) rfl ?_
        refine wa_nil ?_
        refine ⟨by simp, ?_⟩
        refine ⟨q, i + 1, _, pk p, _, rfl, rfl, hmi, far_val hpin hdn (hW _ _ hpin hdn), ?_⟩
        refine w_int ?_
        refine o_sub ?_
        walk_at "Eq"
        refine ⟨_, rfl, ?_⟩
        exact ⟨(by unfold okK; rw [hg, Bool.eq_iff_iff]; show ((d : Int) == _) = true ↔ dsB m (n + 1) g = true; rw [beq_iff_eq, ← hd2]; omega), rfl⟩
      refine ⟨fun hb => ?_, fun hb => ?_⟩
      · -- _law_asks.append(_law_ask)
        refine w_cons (w_expr ?_)
        refine w_append ?_
        refine w_name 5 rfl (.inl rfl) rfl ?_
        refine ⟨.inl ⟨rfl, 0, _, rfl⟩, ?_⟩
        refine wa_cons ?_
        refine w_name 6 rfl (.inl rfl) rfl ?_
        refine wa_nil ?_
        refine m_append 0 rfl (Nat.lt_of_le_of_lt (by rw [List.length_map]; exact Nat.le_trans (List.length_filter_le _ _) (List.length_take_le _ _)) (show j < 1000000 by omega)) ?_
        refine w_nil ?_
        refine w_nil ?_
        refine ⟨?_, _, _, rfl⟩
        rw [← fm_yes (g := fun a : Nat => D.int a) hjr hb]
        rfl
      · refine w_nil ?_
        refine w_nil ?_
        refine ⟨?_, _, _, rfl⟩
        rw [← fm_no hjr hb]
    rintro ρ' μ1 ⟨rfl, x6, x7, rfl⟩
    rw [hfull]
    obtain ⟨k0, hk0⟩ := find_some (ds_next hdn)
    obtain ⟨f1, f2, _⟩ := find_range hk0
    have hk0i : (((List.range m.asks).filter (okK m (n + 1) p)).map (fun a : Nat => D.int a))[0]? = some (.int k0) := by
      rw [List.getElem?_map, ← List.head?_eq_getElem?, filt_head, hk0]
      rfl
    obtain ⟨g, hg, hgd⟩ : ∃ g, bothF m p k0 = some g ∧ dsB m (n + 1) g = true := by
      unfold okK at f2
      cases e : bothF m p k0 with
      | none => rw [e] at f2; cases f2
      | some g => rw [e] at f2; exact ⟨g, rfl, f2⟩
    have hgin := both_in hm hpin f1 hg
    have hcw : rowD (r ++ [k0]) = .tup (r.map (fun a : Nat => D.int a) ++ [.int k0]) := by
      show D.tup ((r ++ [k0]).map _) = _
      rw [List.map_append]
      rfl
    -- _law_row = _law_row + (_law_asks[0],)
    refine w_cons (w_set 4 sc__law_first.nd rfl (.inl rfl) (.inl rfl) ?_)
    refine w_bin ?_
    refine w_name 4 rfl (.inl rfl) rfl ?_
    refine w_tup ?_
    refine wa_cons ?_
    refine w_ix ?_
    refine w_name 5 rfl (.inl rfl) rfl ?_
    refine w_int ?_
    refine ix_ptrD 0 rfl 0 rfl hk0i ?_
    refine wa_nil ?_
    refine ⟨by simp, ?_⟩
    refine o_addT (by rw [List.length_map]; show r.length + 1 ≤ _; omega) ?_
    rw [← hcw]
    -- _law_one, _law_other = _law_both(_law_machine_here, _law_one, _law_other, _law_asks[0])
    refine w_cons (w_asg ?_)
    refine w_callG G__law_both hr ?_
    refine wa_cons ?_
    refine w_name 0 rfl (.inr (.inl rfl)) rfl ?_
    refine wa_cons ?_
    refine w_name 2 rfl (.inr (.inl rfl)) rfl ?_
    refine wa_cons ?_
    refine w_name 3 rfl (.inr (.inl rfl)) rfl ?_
    refine wa_cons ?_
    refine w_ix ?_
    refine w_name 5 rfl (.inl rfl) rfl ?_
    refine w_int ?_
    refine ix_ptrD 0 rfl 0 rfl hk0i ?_
    refine wa_nil ?_
    refine ⟨m, most, p.1, p.2, k0, rfl, hm, hpin, f1, ?_⟩
    have hpo : poD (bothF m (p.1, p.2) k0) = pairD g := by
      show poD (bothF m p k0) = _
      rw [hg]
      rfl
    rw [hpo]
    refine wg_tup rfl rfl ?_
    refine wgs_cons ?_
    refine wg_name 2 sc__law_first.nd rfl (.inr rfl) (.inl rfl) ?_
    refine wgs_cons ?_
    refine wg_name 3 sc__law_first.nd rfl (.inr rfl) (.inl rfl) ?_
    refine wgs_nil ?_
    refine wSs_sub (List.sublist_cons_self _ _) ?_
    refine w_nil ?_
    refine ⟨n, Nat.lt_succ_self _, g, n, r ++ [k0], rfl, hgin, hgd, ?_, ?_, rfl, _, _, _, rfl⟩
    · rw [← hrr, first_next hk0 hg, List.append_assoc]
      rfl
    · rw [List.length_append]
      show r.length + 1 + (n + 1) = _
      omega
  -- _law_asks = [_law_ask for _law_ask in range(_law_machine_here[0]) if _law_unlike(_law_machine_here, _law_one, _law_other, _law_ask)]
  refine w_cons (w_setLc (own := [("_law_ask", 6)]) 5 (.one 6) (by decide) rfl sc__law_first.nd rfl rfl (blkOk_by (N := N__law_first) (sc := defScope s__law_first) (by decide +kernel)) (sw_true rfl rfl rfl (by decide +kernel)) (fun _ _ _ _ _ => pg_name (i := 6) sc__law_first.nd rfl (by first | exact .inl rfl | exact .inr rfl)) ?_)
  refine wi_rng1 T.b_range ?_
  refine w_ix ?_
  refine w_name 0 rfl (.inr (.inl rfl)) rfl ?_
  refine w_int ?_
  obtain rfl : n = 0 := by have := of_decide_eq_false hb; omega
  refine ix_tupD 0 rfl rfl ?_
  refine ⟨_, rfl, by omega, ?_⟩
  refine ⟨by rw [rngD_len]; omega, fun t acc μ3 => acc = (((List.range m.asks).take t).filter (unlB m p)).map (fun a : Nat => D.int a) ∧ μ3 = μ', ⟨rfl, rfl⟩, ?_, ?_⟩
  · rintro p3 t x acc μ3 hx2 ⟨rfl, rfl⟩
    obtain ⟨ht, rfl⟩ := rngD_get hx2
    rw [toNat_natCast'] at ht
    rw [Int.zero_add (t : Int)]
    have htr : (List.range m.asks)[t]? = some t := List.getElem?_range ht
    refine ⟨_, rfl, fun _ _ _ _ _ => ?_⟩
    refine wt_val ?_
    refine w_callG G__law_unlike hr ?_
    refine wa_cons ?_
    refine w_name 0 rfl (.inr (.inl rfl)) rfl ?_
    refine wa_cons ?_
    refine w_name 2 rfl (.inr (.inl rfl)) rfl ?_
    refine wa_cons ?_
    refine w_name 3 rfl (.inr (.inl rfl)) rfl ?_
    refine wa_cons ?_
    refine w_name 6 rfl (.inl rfl) rfl ?_
    refine wa_nil ?_
    refine ⟨m, most, p.1, p.2, t, rfl, hm, hpin, ht, ?_⟩
    refine ⟨_, rfl, ?_⟩
    refine ⟨fun hb => ?_, fun hb => ?_⟩
    · intro _ _ _ _ _
      refine w_name 6 rfl (.inl rfl) rfl ?_
      refine ⟨_, rfl, ?_⟩
      exact ⟨fm_yes (g := fun a : Nat => D.int a) htr hb, rfl⟩
    · refine ⟨_, rfl, ?_⟩
      exact ⟨fm_no htr hb, rfl⟩
  rintro p3 acc μ3 ⟨rfl, rfl⟩
  rw [hfull]
  obtain ⟨k0, hk0⟩ : ∃ k0, (List.range m.asks).find? (unlB m p) = some k0 := by
    rw [ds_one, List.any_eq_true] at hdn
    obtain ⟨k1, h1, h2⟩ := hdn
    exact find_some ⟨k1, List.mem_range.mp h1, h2⟩
  have hk0i : (((List.range m.asks).filter (unlB m p)).map (fun a : Nat => D.int a))[0]? = some (.int k0) := by
    rw [List.getElem?_map, ← List.head?_eq_getElem?, filt_head, hk0]
    rfl
  have hcw : rowD (r ++ [k0]) = .tup (r.map (fun a : Nat => D.int a) ++ [.int k0]) := by
    show D.tup ((r ++ [k0]).map _) = _
    rw [List.map_append]
    rfl
  refine ⟨_, _, _, rfl, rfl, .inl ?_⟩
  -- return _law_row + (_law_asks[0],)
  refine w_cons (w_ret ?_)
  refine w_bin ?_
  refine w_name 4 rfl (.inl rfl) rfl ?_
  refine w_tup ?_
  refine wa_cons ?_
  refine w_ix ?_
  refine w_name 5 rfl (.inl rfl) rfl ?_
  refine w_int ?_
  refine ix_lstD 0 rfl hk0i ?_
  refine wa_nil ?_
  refine ⟨by simp, ?_⟩
  refine o_addT (by rw [List.length_map]; show r.length + 1 ≤ _; omega) ?_
  rw [← hcw]
  have er : r ++ [k0] = firstF m (n0 + 1) (a, b) := by rw [← hrr, first_last hk0]
  exact kq (some (r ++ [k0])) ⟨by rw [er]; exact hbest, by rw [er, hblen]; omega⟩
end
end L09

namespace L09
open PySem PySem.Spec L2 Oc
open Evl (Ex)
local macro_rules | `(tactic| walk_at "s") => `(tactic| first | assumption | omega | decide | (simp only [] at *; omega))
local macro_rules | `(tactic| walk_at "Add") => `(tactic| first | refine o_addN ?_ | refine o_add ?_ | refine o_addS (by walk_at "s") ?_ | refine o_addT (by walk_at "s") ?_ | refine o_addL (by walk_at "s") ?_)
local macro_rules | `(tactic| walk_at "Sub") => `(tactic| refine o_sub ?_)
local macro_rules | `(tactic| walk_at "Mult") => `(tactic| refine o_mul (by walk_at "s") ?_)
local macro_rules | `(tactic| walk_at "Mod") => `(tactic| first | refine o_modN (by walk_at "s") ?_ | refine o_mod (by walk_at "s") ?_)
local macro_rules | `(tactic| walk_at "FloorDiv") => `(tactic| first | refine o_divN (by walk_at "s") ?_ | refine o_div (by walk_at "s") ?_)
local macro_rules | `(tactic| walk_at "Pow") => `(tactic| refine o_pow (by walk_at "s") ?_)
local macro_rules | `(tactic| walk_at "LShift") => `(tactic| refine o_shl (by walk_at "s") ?_)
local macro_rules | `(tactic| walk_at "RShift") => `(tactic| refine o_shr (by walk_at "s") ?_)
local macro_rules | `(tactic| walk_at "BitAnd") => `(tactic| refine o_band ?_)
local macro_rules | `(tactic| walk_at "BitXor") => `(tactic| refine o_bxor ?_)
local macro_rules | `(tactic| walk_at "BitOr") => `(tactic| refine o_bor ?_)
local macro_rules | `(tactic| walk_at "Lt") => `(tactic| refine o_lt ?_)
local macro_rules | `(tactic| walk_at "LtE") => `(tactic| refine o_le ?_)
local macro_rules | `(tactic| walk_at "Gt") => `(tactic| refine o_gt ?_)
local macro_rules | `(tactic| walk_at "GtE") => `(tactic| refine o_ge ?_)
local macro_rules | `(tactic| walk_at "Eq") => `(tactic| refine o_eq (by rfl) ?_)
local macro_rules | `(tactic| walk_at "NotEq") => `(tactic| refine o_ne (by rfl) ?_)
local macro_rules | `(tactic| walk_at "Is") => `(tactic| refine o_isN ?_)
local macro_rules | `(tactic| walk_at "IsNot") => `(tactic| refine o_notN ?_)
local macro_rules | `(tactic| walk_at "In") => `(tactic| refine o_in (by first | exact .inl rfl | exact .inr (.inl rfl) | exact .inr (.inr rfl)) (by rfl) (by rfl) ?_)
local macro_rules | `(tactic| walk_at "NotIn") => `(tactic| refine o_nin (by first | exact .inl rfl | exact .inr (.inl rfl) | exact .inr (.inr rfl)) (by rfl) (by rfl) ?_)
local macro_rules | `(tactic| walk_at "c_abs") => `(tactic| refine c_abs ?_)
local macro_rules | `(tactic| walk_at "c_len") => `(tactic| first | refine c_lenL ?_ | refine c_lenC ?_ | refine c_lenT ?_ | refine c_lenS (by walk_at "s") ?_ | refine c_lenP 0 (by first | assumption | rfl) ?_)
local macro_rules | `(tactic| walk_at "c_str") => `(tactic| refine c_str (by walk_at "s") ?_)
local macro_rules | `(tactic| walk_at "c_isinstance") => `(tactic| refine c_isi rfl (by rfl) ?_)
local macro_rules | `(tactic| walk_at "sl") => `(tactic| first | refine sd_tup ?_ | refine sd_lst ?_)
local macro_rules | `(tactic| walk_at "c_tuple") => `(tactic| first | refine c_tupL ?_ | refine c_tupP 0 (by first | assumption | rfl) ?_ | refine c_tupT ?_)
local macro_rules | `(tactic| walk_at "c_int") => `(tactic| first | refine c_intB ?_)
local macro_rules | `(tactic| walk_at "USub") => `(tactic| refine u_neg ?_)
local macro_rules | `(tactic| walk_at "pen") => `(tactic| first | assumption | exact get_set (by assumption) | exact get_set (get_set (by assumption)) | exact get_here | (apply get_cons; walk_at "pen") | (apply get_app; walk_at "pen"))
local macro_rules | `(tactic| walk_at "mu") => `(tactic| simp only [List.set_cons_succ, List.set_set, List.set_cons_zero])
/-! ### k09: rings: plain facts -/
/-- a ring of rooms, gone round by one ask, one place of which says something -/
structure Ring where
  r : List Nat
  s : Nat
  h : Nat
def Ring.nx (R : Ring) (k : Nat) : Nat := (k + 1) % R.r.length
def Ring.cell (R : Ring) (a k o : Nat) : Cell := if o = a then (some (R.r.getD (R.nx k) 0), if k = R.s then some R.h else none) else (none, none)
structure RingAt (m : Mach) (a : Nat) (R : Ring) : Prop where
  ne : 0 < R.r.length
  inn : ∀ x ∈ R.r, x < m.rooms.length
  cel : ∀ k, k < R.r.length → ∀ o, o < m.asks → m.cell (R.r.getD k 0) o = R.cell a k o
theorem ring_in {m : Mach} {a : Nat} {R : Ring} (h : RingAt m a R) {k : Nat} (hk : k < R.r.length) : R.r.getD k 0 < m.rooms.length := by
  rw [List.getD_eq_getElem?_getD, List.getElem?_eq_getElem hk]
  exact h.inn _ (List.getElem_mem hk)
/-- both come to the two places that say something, behind so many asks -/
def MeetAt (R S : Ring) (i j g : Nat) : Prop := (i + g) % R.r.length = R.s ∧ (j + g) % S.r.length = S.s
instance (R S : Ring) (i j g : Nat) : Decidable (MeetAt R S i j g) := by unfold MeetAt; infer_instance
theorem ring_unl {m : Mach} {a : Nat} {R S : Ring} (hR : RingAt m a R) (hS : RingAt m a S) {i j o : Nat} (hi : i < R.r.length) (hj : j < S.r.length) (ho : o < m.asks) :
    unlB m (R.r.getD i 0, S.r.getD j 0) o = decide (o = a ∧ i = R.s ∧ j = S.s ∧ R.h ≠ S.h) := by
  unfold unlB
  show unlC (m.cell (R.r.getD i 0) o).2 (m.cell (S.r.getD j 0) o).2 = _
  rw [hR.cel i hi o ho, hS.cel j hj o ho]
  unfold Ring.cell
  by_cases e : o = a
  · rw [if_pos e, if_pos e]
    show unlC (if i = R.s then some R.h else none) (if j = S.s then some S.h else none) = _
    by_cases e1 : i = R.s
    · by_cases e2 : j = S.s
      · rw [if_pos e1, if_pos e2]
        show (!(R.h == S.h)) = _
        rw [Bool.eq_iff_iff, Bool.not_eq_true', beq_eq_false_iff_ne, decide_eq_true_iff]
        exact ⟨fun h => ⟨e, e1, e2, h⟩, fun h => h.2.2.2⟩
      · rw [if_pos e1, if_neg e2, decide_eq_false (fun h => e2 h.2.2.1)]
        rfl
    · rw [if_neg e1, decide_eq_false (fun h => e1 h.2.1)]
      rfl
  · rw [if_neg e, if_neg e, decide_eq_false (fun h => e h.1)]
    rfl
theorem ring_both {m : Mach} {a : Nat} {R S : Ring} (hR : RingAt m a R) (hS : RingAt m a S) {i j o : Nat} (hi : i < R.r.length) (hj : j < S.r.length) (ho : o < m.asks) :
    bothF m (R.r.getD i 0, S.r.getD j 0) o = if o = a then some (R.r.getD (R.nx i) 0, S.r.getD (S.nx j) 0) else none := by
  unfold bothF
  show bothC (m.cell (R.r.getD i 0) o).1 (m.cell (S.r.getD j 0) o).1 = _
  rw [hR.cel i hi o ho, hS.cel j hj o ho]
  unfold Ring.cell
  by_cases e : o = a
  · rw [if_pos e, if_pos e, if_pos e]; rfl
  · rw [if_neg e, if_neg e, if_neg e]; rfl
theorem nx_lt {R : Ring} (h : 0 < R.r.length) (k : Nat) : R.nx k < R.r.length := Nat.mod_lt _ h
theorem nx_add {R : Ring} (k g : Nat) : (R.nx k + g) % R.r.length = (k + (g + 1)) % R.r.length := by
  unfold Ring.nx
  rw [Nat.mod_add_mod, show k + 1 + g = k + (g + 1) by omega]
/-- just the rows of the one ask part -/
theorem ring_prt {m : Mach} {a : Nat} {R S : Ring} (hR : RingAt m a R) (hS : RingAt m a S) (ha : a < m.asks) : ∀ (row : List Nat) (i j : Nat), i < R.r.length → j < S.r.length →
    (Prt m (R.r.getD i 0, S.r.getD j 0) row ↔ ∃ g, row = List.replicate (g + 1) a ∧ MeetAt R S i j g ∧ R.h ≠ S.h)
  | [], i, j, hi, hj => ⟨fun h => absurd h prt_nil, fun ⟨g, h, _⟩ => by rw [List.replicate_succ] at h; cases h⟩
  | [x], i, j, hi, hj => by
    rw [prt_one]
    constructor
    · rintro ⟨h1, h2⟩
      rw [ring_unl hR hS hi hj h1, decide_eq_true_iff] at h2
      obtain ⟨rfl, e1, e2, e3⟩ := h2
      refine ⟨0, rfl, ⟨?_, ?_⟩, e3⟩
      · rw [Nat.add_zero, Nat.mod_eq_of_lt hi]; exact e1
      · rw [Nat.add_zero, Nat.mod_eq_of_lt hj]; exact e2
    · rintro ⟨g, h, ⟨e1, e2⟩, e3⟩
      have hg : g = 0 := by
        have := congrArg List.length h
        rw [List.length_replicate] at this
        simpa using this.symm
      subst hg
      have hx : x = a := by simpa using h
      subst hx
      rw [Nat.add_zero, Nat.mod_eq_of_lt hi] at e1
      rw [Nat.add_zero, Nat.mod_eq_of_lt hj] at e2
      exact ⟨ha, by rw [ring_unl hR hS hi hj ha, decide_eq_true_iff]; exact ⟨rfl, e1, e2, e3⟩⟩
  | x :: y :: r, i, j, hi, hj => by
    rw [prt_cons (by simp)]
    constructor
    · rintro ⟨h1, q, hq, hp⟩
      rw [ring_both hR hS hi hj h1] at hq
      by_cases e : x = a
      · rw [if_pos e] at hq
        cases hq
        obtain ⟨g, hg, ⟨e1, e2⟩, e3⟩ := (ring_prt hR hS ha (y :: r) _ _ (nx_lt hR.ne i) (nx_lt hS.ne j)).mp hp
        refine ⟨g + 1, by rw [List.replicate_succ, ← hg, e], ⟨?_, ?_⟩, e3⟩
        · rw [← nx_add]; exact e1
        · rw [← nx_add]; exact e2
      · rw [if_neg e] at hq
        cases hq
    · rintro ⟨g, h, ⟨e1, e2⟩, e3⟩
      obtain ⟨g, rfl⟩ : ∃ g', g = g' + 1 := ⟨g - 1, by
        have := congrArg List.length h
        rw [List.length_replicate] at this
        have : r.length + 2 = g + 1 := this
        omega⟩
      rw [List.replicate_succ] at h
      injection h with h1 h2
      subst h1
      refine ⟨ha, _, by rw [ring_both hR hS hi hj ha, if_pos rfl], (ring_prt hR hS ha (y :: r) _ _ (nx_lt hR.ne i) (nx_lt hS.ne j)).mpr ⟨g, h2, ⟨?_, ?_⟩, e3⟩⟩
      · rw [nx_add]; exact e1
      · rw [nx_add]; exact e2
/-- how many asks; none where they never meet -/
def stepsN (R S : Ring) (i j : Nat) : Option Nat := ((List.range (R.r.length * S.r.length)).find? fun g => decide (MeetAt R S i j g)).map (· + 1)
theorem meet_mod {R S : Ring} {i j g : Nat} : MeetAt R S i j (g % (R.r.length * S.r.length)) ↔ MeetAt R S i j g := by
  unfold MeetAt
  rw [Nat.add_mod i, Nat.mod_mul_right_mod, ← Nat.add_mod, Nat.add_mod j, Nat.mod_mul_left_mod, ← Nat.add_mod]
theorem steps_none {R S : Ring} (hR : 0 < R.r.length) (hS : 0 < S.r.length) {i j : Nat} (h : stepsN R S i j = none) (g : Nat) : ¬ MeetAt R S i j g := fun hm => by
  unfold stepsN at h
  rw [Option.map_eq_none_iff, List.find?_eq_none] at h
  have h1 := h (g % (R.r.length * S.r.length)) (List.mem_range.mpr (Nat.mod_lt _ (Nat.mul_pos hR hS)))
  exact h1 (decide_eq_true (meet_mod.mpr hm))
theorem steps_some {R S : Ring} {i j n : Nat} (h : stepsN R S i j = some n) : ∃ g, n = g + 1 ∧ g < R.r.length * S.r.length ∧ MeetAt R S i j g ∧ ∀ g', g' < g → ¬ MeetAt R S i j g' := by
  unfold stepsN at h
  obtain ⟨g, hg, rfl⟩ := Option.map_eq_some_iff.mp h
  have h1 := List.mem_of_find?_eq_some hg
  have h2 := List.find?_some hg
  have hlt := List.mem_range.mp h1
  refine ⟨g, rfl, hlt, of_decide_eq_true h2, fun g' hg' hm => ?_⟩
  obtain ⟨_, as, bs, e, hno⟩ := List.find?_eq_some_iff_append.mp hg
  have hmem : g' ∈ as := by
    have hr : (List.range (R.r.length * S.r.length))[g']? = some g' := List.getElem?_range (by omega)
    have hg2 : (List.range (R.r.length * S.r.length))[as.length]? = some g := by rw [e]; simp
    have hl : as.length < R.r.length * S.r.length := by
      have := congrArg List.length e
      rw [List.length_range, List.length_append, List.length_cons] at this
      omega
    rw [List.getElem?_range hl] at hg2
    have hgl : as.length = g := Option.some.inj hg2
    rw [e, List.getElem?_append_left (by omega)] at hr
    exact List.mem_of_getElem? hr
  have := hno g' hmem
  simp [hm] at this
/-- what parting tells of two rooms of two rings -/
def ringRes (R S : Ring) (a i j : Nat) : Option (List Nat) := if R.h = S.h then none else (stepsN R S i j).map fun n => List.replicate n a
theorem ring_res {m : Mach} {a : Nat} {R S : Ring} (hR : RingAt m a R) (hS : RingAt m a S) (ha : a < m.asks) (hl : R.r.length * S.r.length ≤ 10000) {i j : Nat} (hi : i < R.r.length) (hj : j < S.r.length) : Res m (R.r.getD i 0, S.r.getD j 0) (ringRes R S a i j) := by
  unfold ringRes
  by_cases e : R.h = S.h
  · rw [if_pos e]
    intro row h
    obtain ⟨g, _, _, h3⟩ := (ring_prt hR hS ha row i j hi hj).mp h
    exact h3 e
  · rw [if_neg e]
    cases es : stepsN R S i j with
    | none =>
      intro row h
      obtain ⟨g, _, h2, _⟩ := (ring_prt hR hS ha row i j hi hj).mp h
      exact steps_none hR.ne hS.ne es g h2
    | some n =>
      obtain ⟨g, rfl, hg, hm, hno⟩ := steps_some es
      refine ⟨⟨(ring_prt hR hS ha _ i j hi hj).mpr ⟨g, rfl, hm, e⟩, fun row' h' => ?_⟩, by show (List.replicate (g + 1) a).length ≤ _; rw [List.length_replicate]; omega⟩
      obtain ⟨g', rfl, hm', _⟩ := (ring_prt hR hS ha row' i j hi hj).mp h'
      have hle : g ≤ g' := Nat.le_of_not_lt fun q => hno g' q hm'
      rcases Nat.lt_or_ge g g' with q | q
      · exact Nat.le_of_lt (vl_len (fun x hx => by rw [List.eq_of_mem_replicate hx]; exact ha) (by show (List.replicate (g + 1) a).length < _; rw [List.length_replicate, List.length_replicate]; omega))
      · rw [show g' = g by omega]
        exact Nat.le_refl _
theorem ptd_iff_res {m : Mach} {p : Pair} {o : Option (List Nat)} (h : Res m p o) : Ptd m p ↔ o.isSome = true := by
  cases o with
  | none => exact ⟨fun ⟨r, hr⟩ => absurd hr (h r), fun z => by cases z⟩
  | some r => exact ⟨fun _ => rfl, fun _ => ⟨r, h.1.1⟩⟩
theorem unl_sym (m : Mach) (a b k : Nat) : unlB m (a, b) k = unlB m (b, a) k := by
  unfold unlB
  show unlC (m.cell a k).2 (m.cell b k).2 = unlC (m.cell b k).2 (m.cell a k).2
  cases (m.cell a k).2 <;> cases (m.cell b k).2 <;> simp [unlC]
  exact Bool.beq_comm
theorem both_sym (m : Mach) (a b k : Nat) : bothF m (b, a) k = (bothF m (a, b) k).map fun q => (q.2, q.1) := by
  unfold bothF
  show bothC (m.cell b k).1 (m.cell a k).1 = _
  cases (m.cell a k).1 <;> cases (m.cell b k).1 <;> rfl
theorem prt_sym {m : Mach} : ∀ {row : List Nat} {a b : Nat}, Prt m (a, b) row → Prt m (b, a) row
  | [], _, _, h => absurd h prt_nil
  | [x], a, b, h => by
    rw [prt_one] at h ⊢
    exact ⟨h.1, by rw [unl_sym]; exact h.2⟩
  | x :: y :: r, a, b, h => by
    obtain ⟨h1, q, hq, hp⟩ := (prt_cons (by simp)).mp h
    exact (prt_cons (by simp)).mpr ⟨h1, (q.2, q.1), by rw [both_sym, hq]; rfl, prt_sym (a := q.1) (b := q.2) hp⟩
theorem ptd_sym {m : Mach} {a b : Nat} (h : Ptd m (a, b)) : Ptd m (b, a) := by
  obtain ⟨r, hr⟩ := h
  exact ⟨r, prt_sym hr⟩
/-- the pairs that are due -/
def dueL (R S : Ring) : List Pair := (List.range R.r.length).flatMap fun i => (List.range S.r.length).flatMap fun j => if (stepsN R S i j).isSome then [(min (R.r.getD i 0) (S.r.getD j 0), max (R.r.getD i 0) (S.r.getD j 0))] else []
theorem mem_due {R S : Ring} {p : Pair} : p ∈ dueL R S ↔ ∃ i j, i < R.r.length ∧ j < S.r.length ∧ (stepsN R S i j).isSome = true ∧ p = (min (R.r.getD i 0) (S.r.getD j 0), max (R.r.getD i 0) (S.r.getD j 0)) := by
  unfold dueL
  constructor
  · intro h
    obtain ⟨i, hi, h⟩ := List.mem_flatMap.mp h
    obtain ⟨j, hj, h⟩ := List.mem_flatMap.mp h
    by_cases e : (stepsN R S i j).isSome = true
    · rw [if_pos e, List.mem_singleton] at h
      exact ⟨i, j, List.mem_range.mp hi, List.mem_range.mp hj, e, h⟩
    · rw [if_neg e] at h
      cases h
  · rintro ⟨i, j, hi, hj, e, rfl⟩
    refine List.mem_flatMap.mpr ⟨i, List.mem_range.mpr hi, List.mem_flatMap.mpr ⟨j, List.mem_range.mpr hj, ?_⟩⟩
    rw [if_pos e]
    exact List.mem_singleton.mpr rfl
theorem getD_idx {l : List Nat} {x : Nat} (h : x ∈ l) : ∃ i, i < l.length ∧ l.getD i 0 = x := by
  obtain ⟨i, hi, e⟩ := List.getElem_of_mem h
  exact ⟨i, hi, by rw [List.getD_eq_getElem?_getD, List.getElem?_eq_getElem hi]; exact e⟩
theorem getD_mem {l : List Nat} {i : Nat} (h : i < l.length) : l.getD i 0 ∈ l := by
  rw [List.getD_eq_getElem?_getD, List.getElem?_eq_getElem h]
  exact List.getElem_mem h
theorem getD_inj {l : List Nat} (nd : l.Nodup) {i j : Nat} (hi : i < l.length) (hj : j < l.length) (e : l.getD i 0 = l.getD j 0) : i = j := by
  rw [List.getD_eq_getElem?_getD, List.getD_eq_getElem?_getD, List.getElem?_eq_getElem hi, List.getElem?_eq_getElem hj] at e
  have e : l[i] = l[j] := e
  rcases Nat.lt_trichotomy i j with h | h | h
  · exact absurd e (List.pairwise_iff_getElem.mp nd i j hi hj h)
  · exact h
  · exact absurd e.symm (List.pairwise_iff_getElem.mp nd j i hj hi h)
theorem minmax {a b c d : Nat} (h : (min a b, max a b) = (min c d, max c d)) : (a = c ∧ b = d) ∨ (a = d ∧ b = c) := by
  injection h with h1 h2
  omega
structure Rings (m : Mach) (a : Nat) (R S : Ring) : Prop where
  ha : a < m.asks
  hR : RingAt m a R
  hS : RingAt m a S
  pm : (R.r ++ S.r).Perm (List.range m.rooms.length)
  hh : R.h ≠ S.h
  sz : R.r.length * S.r.length ≤ 10000
theorem Rings.nd {m : Mach} {a : Nat} {R S : Ring} (h : Rings m a R S) : R.r.Nodup ∧ S.r.Nodup ∧ ∀ x ∈ R.r, ∀ y ∈ S.r, x ≠ y := by
  have h1 := (h.pm.nodup_iff).mpr List.nodup_range
  exact List.nodup_append.mp h1
theorem due_nodup {m : Mach} {a : Nat} {R S : Ring} (h : Rings m a R S) : (dueL R S).Nodup := by
  obtain ⟨n1, n2, dj⟩ := h.nd
  unfold dueL
  refine List.pairwise_flatMap.mpr ⟨fun i hi => List.pairwise_flatMap.mpr ⟨fun j hj => ?_, ?_⟩, ?_⟩
  · split
    · exact List.pairwise_singleton _ _
    · exact List.Pairwise.nil
  · refine List.pairwise_lt_range.imp_of_mem fun {j j'} hj hj' hlt x hx y hy e => ?_
    have hi := List.mem_range.mp hi
    have hj := List.mem_range.mp hj
    have hj' := List.mem_range.mp hj'
    split at hx
    · split at hy
      · rw [List.mem_singleton] at hx hy
        rw [hx, hy] at e
        rcases minmax e with ⟨_, e2⟩ | ⟨e1, _⟩
        · have := getD_inj n2 hj hj' e2
          omega
        · exact dj _ (getD_mem hi) _ (getD_mem hj') e1
      · cases hy
    · cases hx
  · refine List.pairwise_lt_range.imp_of_mem fun {i i'} hi hi' hlt x hx y hy e => ?_
    have hi := List.mem_range.mp hi
    have hi' := List.mem_range.mp hi'
    obtain ⟨j, hj, hx⟩ := List.mem_flatMap.mp hx
    obtain ⟨j', hj', hy⟩ := List.mem_flatMap.mp hy
    have hj := List.mem_range.mp hj
    have hj' := List.mem_range.mp hj'
    split at hx
    · split at hy
      · rw [List.mem_singleton] at hx hy
        rw [hx, hy] at e
        rcases minmax e with ⟨e1, _⟩ | ⟨e1, _⟩
        · have := getD_inj n1 hi hi' e1
          omega
        · exact dj _ (getD_mem hi) _ (getD_mem hj') e1
      · cases hy
    · cases hx
theorem due_parted {m : Mach} {a : Nat} {R S : Ring} (h : Rings m a R S) {l : List Pair} (hp : l.Perm (dueL R S)) (hs : l.Pairwise leP) : IsParted m l := by
  obtain ⟨n1, n2, dj⟩ := h.nd
  refine ⟨hs, hp.nodup_iff.mpr (due_nodup h), fun p => ?_⟩
  have res : ∀ {i j}, i < R.r.length → j < S.r.length → (Ptd m (R.r.getD i 0, S.r.getD j 0) ↔ (stepsN R S i j).isSome = true) := fun {i j} hi hj => by
    rw [ptd_iff_res (ring_res h.hR h.hS h.ha h.sz hi hj)]
    unfold ringRes
    rw [if_neg h.hh]
    cases stepsN R S i j <;> simp
  rw [hp.mem_iff, mem_due]
  constructor
  · rintro ⟨i, j, hi, hj, hst, rfl⟩
    have hx := ring_in h.hR hi
    have hy := ring_in h.hS hj
    have hne := dj _ (getD_mem hi) _ (getD_mem hj)
    have hpt := (res hi hj).mpr hst
    refine ⟨⟨by show min _ _ < _; omega, by show max _ _ < _; omega⟩, by show min _ _ < max _ _; omega, ?_⟩
    rcases Nat.lt_or_ge (R.r.getD i 0) (S.r.getD j 0) with q | q
    · rw [Nat.min_eq_left (by omega), Nat.max_eq_right (by omega)]
      exact hpt
    · rw [Nat.min_eq_right q, Nat.max_eq_left q]
      exact ptd_sym hpt
  · obtain ⟨x, y⟩ := p
    rintro ⟨⟨hx, hy⟩, hlt, hpt⟩
    have hlt : x < y := hlt
    have inR : ∀ z, z < m.rooms.length → z ∈ R.r ∨ z ∈ S.r := fun z hz => List.mem_append.mp (h.pm.mem_iff.mpr (List.mem_range.mpr hz))
    rcases inR x hx with qx | qx
    · obtain ⟨i, hi, rfl⟩ := getD_idx qx
      rcases inR y hy with qy | qy
      · obtain ⟨j, hj, rfl⟩ := getD_idx qy
        obtain ⟨row, hr⟩ := hpt
        obtain ⟨g, _, _, e⟩ := (ring_prt h.hR h.hR h.ha row i j hi hj).mp hr
        exact absurd rfl e
      · obtain ⟨j, hj, rfl⟩ := getD_idx qy
        exact ⟨i, j, hi, hj, (res hi hj).mp hpt, by rw [Nat.min_eq_left (by omega), Nat.max_eq_right (by omega)]⟩
    · obtain ⟨j, hj, rfl⟩ := getD_idx qx
      rcases inR y hy with qy | qy
      · obtain ⟨i, hi, rfl⟩ := getD_idx qy
        exact ⟨i, j, hi, hj, (res hi hj).mp (ptd_sym hpt), by rw [Nat.min_eq_right (by omega), Nat.max_eq_left (by omega)]⟩
      · obtain ⟨i, hi, rfl⟩ := getD_idx qy
        obtain ⟨row, hr⟩ := hpt
        obtain ⟨g, _, _, e⟩ := (ring_prt h.hS h.hS h.ha row j i hj hi).mp hr
        exact absurd rfl e
end L09

namespace L09
open PySem PySem.Spec L2 Oc
open Evl (Ex)
local macro_rules | `(tactic| walk_at "s") => `(tactic| first | assumption | omega | decide | (simp only [] at *; omega))
local macro_rules | `(tactic| walk_at "Add") => `(tactic| first | refine o_addN ?_ | refine o_add ?_ | refine o_addS (by walk_at "s") ?_ | refine o_addT (by walk_at "s") ?_ | refine o_addL (by walk_at "s") ?_)
local macro_rules | `(tactic| walk_at "Sub") => `(tactic| refine o_sub ?_)
local macro_rules | `(tactic| walk_at "Mult") => `(tactic| refine o_mul (by walk_at "s") ?_)
local macro_rules | `(tactic| walk_at "Mod") => `(tactic| first | refine o_modN (by walk_at "s") ?_ | refine o_mod (by walk_at "s") ?_)
local macro_rules | `(tactic| walk_at "FloorDiv") => `(tactic| first | refine o_divN (by walk_at "s") ?_ | refine o_div (by walk_at "s") ?_)
local macro_rules | `(tactic| walk_at "Pow") => `(tactic| refine o_pow (by walk_at "s") ?_)
local macro_rules | `(tactic| walk_at "LShift") => `(tactic| refine o_shl (by walk_at "s") ?_)
local macro_rules | `(tactic| walk_at "RShift") => `(tactic| refine o_shr (by walk_at "s") ?_)
local macro_rules | `(tactic| walk_at "BitAnd") => `(tactic| refine o_band ?_)
local macro_rules | `(tactic| walk_at "BitXor") => `(tactic| refine o_bxor ?_)
local macro_rules | `(tactic| walk_at "BitOr") => `(tactic| refine o_bor ?_)
local macro_rules | `(tactic| walk_at "Lt") => `(tactic| refine o_lt ?_)
local macro_rules | `(tactic| walk_at "LtE") => `(tactic| refine o_le ?_)
local macro_rules | `(tactic| walk_at "Gt") => `(tactic| refine o_gt ?_)
local macro_rules | `(tactic| walk_at "GtE") => `(tactic| refine o_ge ?_)
local macro_rules | `(tactic| walk_at "Eq") => `(tactic| refine o_eq (by rfl) ?_)
local macro_rules | `(tactic| walk_at "NotEq") => `(tactic| refine o_ne (by rfl) ?_)
local macro_rules | `(tactic| walk_at "Is") => `(tactic| refine o_isN ?_)
local macro_rules | `(tactic| walk_at "IsNot") => `(tactic| refine o_notN ?_)
local macro_rules | `(tactic| walk_at "In") => `(tactic| refine o_in (by first | exact .inl rfl | exact .inr (.inl rfl) | exact .inr (.inr rfl)) (by rfl) (by rfl) ?_)
local macro_rules | `(tactic| walk_at "NotIn") => `(tactic| refine o_nin (by first | exact .inl rfl | exact .inr (.inl rfl) | exact .inr (.inr rfl)) (by rfl) (by rfl) ?_)
local macro_rules | `(tactic| walk_at "c_abs") => `(tactic| refine c_abs ?_)
local macro_rules | `(tactic| walk_at "c_len") => `(tactic| first | refine c_lenL ?_ | refine c_lenC ?_ | refine c_lenT ?_ | refine c_lenS (by walk_at "s") ?_ | refine c_lenP 0 (by first | assumption | rfl) ?_)
local macro_rules | `(tactic| walk_at "c_str") => `(tactic| refine c_str (by walk_at "s") ?_)
local macro_rules | `(tactic| walk_at "c_isinstance") => `(tactic| refine c_isi rfl (by rfl) ?_)
local macro_rules | `(tactic| walk_at "sl") => `(tactic| first | refine sd_tup ?_ | refine sd_lst ?_)
local macro_rules | `(tactic| walk_at "c_tuple") => `(tactic| first | refine c_tupL ?_ | refine c_tupP 0 (by first | assumption | rfl) ?_ | refine c_tupT ?_)
local macro_rules | `(tactic| walk_at "c_int") => `(tactic| first | refine c_intB ?_)
local macro_rules | `(tactic| walk_at "USub") => `(tactic| refine u_neg ?_)
local macro_rules | `(tactic| walk_at "pen") => `(tactic| first | assumption | exact get_set (by assumption) | exact get_set (get_set (by assumption)) | exact get_here | (apply get_cons; walk_at "pen") | (apply get_app; walk_at "pen"))
local macro_rules | `(tactic| walk_at "mu") => `(tactic| simp only [List.set_cons_succ, List.set_set, List.set_cons_zero])
/-! ### k09: rings: the walk -/
def natsL (l : List Nat) : D := .lst (l.map fun a : Nat => .int a)
def stD : Option Nat → D
  | none => .non
  | some n => .int n
theorem eqf_nat (a b : Nat) : D.eqf (.int (a : Nat)) (.int (b : Nat)) = decide (a = b) := by
  show ((a : Int) == (b : Int)) = _
  rw [Bool.eq_iff_iff, beq_iff_eq, decide_eq_true_iff]
  omega
theorem no_next {R S : Ring} {ii jj g : Nat} (h : ∀ g', g' < g → ¬ MeetAt R S ii jj g') (hb : decide (MeetAt R S ii jj g) = false) : ∀ g', g' < g + 1 → ¬ MeetAt R S ii jj g' := fun g' hg => by
  rcases Nat.lt_or_ge g' g with q | q
  · exact h g' q
  · rw [show g' = g by omega]; exact of_decide_eq_false hb
def S_said : FS := fun ds μ Φ => ∃ (m : Mach) (most a b : Nat) (row : List Nat), ds = [machD m, .int a, .int b, rowD row] ∧ m.Ok most ∧ most ≤ 100 ∧ PIn m (a, b) ∧ Prt m (a, b) row ∧ row.length ≤ 20000 ∧ Φ (.bl true) μ
def S_steps : FS := fun ds μ Φ => ∃ (R S : Ring) (i j : Nat), ds = [.lst [natsL R.r, natsL S.r], .lst [.int R.s, .int S.s], .int i, .int j] ∧ 0 < R.r.length ∧ 0 < S.r.length ∧ R.r.length ≤ 100 ∧ S.r.length ≤ 100 ∧ Φ (stD (stepsN R S i j)) μ
theorem steps_at {R S : Ring} {i j g : Nat} (hg : g < R.r.length * S.r.length) (h : MeetAt R S i j g) (hno : ∀ g', g' < g → ¬ MeetAt R S i j g') : stepsN R S i j = some (g + 1) := by
  cases e : stepsN R S i j with
  | none =>
    unfold stepsN at e
    rw [Option.map_eq_none_iff, List.find?_eq_none] at e
    exact absurd (decide_eq_true h) (e g (List.mem_range.mpr hg))
  | some n =>
    obtain ⟨g2, rfl, _, h2, hno2⟩ := steps_some e
    rcases Nat.lt_trichotomy g g2 with q | q | q
    · exact absurd h (hno2 g q)
    · rw [q]
    · exact absurd h2 (hno g2 q)
theorem steps_no {R S : Ring} {i j : Nat} (hno : ∀ g', g' < R.r.length * S.r.length → ¬ MeetAt R S i j g') : stepsN R S i j = none := by
  unfold stepsN
  rw [Option.map_eq_none_iff, List.find?_eq_none]
  intro g hg
  rw [decide_eq_true_iff]
  exact hno g (List.mem_range.mp hg)
section
variable {P : Program} {w : World} {K : PySem.W.Frag} {mg : Str → Option Value} {base : Heap}
theorem ok_steps (B : Src K mg "_law_steps" s__law_steps ["_law_rings_here", "_law_spots", "_law_i", "_law_j"]) (T : Tx mg)  : KnG P w K mg base 1 "_law_steps" ["_law_rings_here", "_law_spots", "_law_i", "_law_j"] S_steps := by
  refine kn_ofG B sc__law_steps (fun ds μ Φ h => by obtain ⟨_, _, _, _, rfl, _⟩ := h; rfl) fun f cdv A outer s H E grd hr ds μ Φ h => ?_
  obtain ⟨R, S, ii, jj, rfl, hR, hS, hR1, hS1, kq⟩ := h
  have hprod : R.r.length * S.r.length ≤ 100 * 100 := Nat.mul_le_mul hR1 hS1
  refine wSs_rho (ρ' := [_, _, _, _, _]) rfl ?_
  -- for _law_go_round in range(len(_law_rings_here[0]) * len(_law_rings_here[1])):
  refine w_cons (w_forV [4] ?_ PassesOwn.never rfl)
  refine wi_rngN T.b_range ?_
  refine w_bin ?_
  refine w_callB (id := "len") T.b_len ?_
  refine wa_cons ?_
  refine w_ix ?_
  refine w_name 0 rfl (.inl rfl) rfl ?_
  refine w_int ?_
  first | refine ix_tupD 0 rfl rfl ?_ | refine ix_lstD 0 rfl rfl ?_ | refine ix_tupD 0 rfl (by assumption) ?_ | refine ix_lstD 0 rfl (by assumption) ?_ | refine ix_ptrD 0 rfl 0 rfl rfl ?_ | refine ix_ptrD 1 rfl 0 rfl rfl ?_ | refine ix_ptrD 2 rfl 0 rfl rfl ?_
  refine wa_nil ?_
  walk_at "c_len"
  rw [List.length_map]
  refine w_callB (id := "len") T.b_len ?_
  refine wa_cons ?_
  refine w_ix ?_
  refine w_name 0 rfl (.inl rfl) rfl ?_
  refine w_int ?_
  first | refine ix_tupD 1 rfl rfl ?_ | refine ix_lstD 1 rfl rfl ?_ | refine ix_tupD 1 rfl (by assumption) ?_ | refine ix_lstD 1 rfl (by assumption) ?_ | refine ix_ptrD 0 rfl 1 rfl rfl ?_ | refine ix_ptrD 1 rfl 1 rfl rfl ?_ | refine ix_ptrD 2 rfl 1 rfl rfl ?_
  refine wa_nil ?_
  walk_at "c_len"
  rw [List.length_map]
  refine o_mul (by omega) ?_
  rw [show ((R.r.length : Nat) : Int) * ((S.r.length : Nat) : Int) = ((R.r.length * S.r.length : Nat) : Int) from rfl]
  refine ⟨_, by rfl, by omega, ?_⟩
  refine ⟨_, fun i vs μ' => ∃  (w4 : Option D), (∀ g', g' < i → ¬ MeetAt R S ii jj g') ∧ vs = [w4] ∧ μ = μ', (by first | exact nats_len | exact nats2_len | exact enumD_len.trans (List.length_map _) | exact enumD_len | exact List.length_map _ | exact rfl | simp), ⟨_, (fun g' h => absurd h (Nat.not_lt_zero _)), rfl, rfl⟩, ?_, ?_⟩
  · rintro go_round x vs μ' hx ⟨w4, hno, rfl, rfl⟩
    refine wG_rho (ρ' := [_, _, _, _, _]) rfl ?_
    obtain ⟨hgo_round, rfl⟩ := nats_get hx
    refine wg_name 4 sc__law_steps.nd rfl (.inl rfl) (.inl rfl) ?_
    -- if (_law_i + _law_go_round) % len(_law_rings_here[0]) == _law_spots[0] and (_law_j + _law_go_round) % len(_law_rings_here[1]) == _law_spots[1]:
    refine w_cons (w_if ?_)
    refine wt_b ((decide (MeetAt R S ii jj go_round))) ?_ ?_
    · refine wt_w ?_
      refine ww_and ?_
      refine wt_cmp ?_
      refine w_bin ?_
      refine w_bin ?_
      refine w_name 2 rfl (.inl rfl) rfl ?_
      refine w_name 4 rfl (.inl rfl) rfl ?_
      first | refine o_addN ?_ | walk_at "Add"
      refine w_callB (id := "len") T.b_len ?_
      refine wa_cons ?_
      refine w_ix ?_
      refine w_name 0 rfl (.inl rfl) rfl ?_
      refine w_int ?_
      first | refine ix_tupD 0 rfl rfl ?_ | refine ix_lstD 0 rfl rfl ?_ | refine ix_tupD 0 rfl (by assumption) ?_ | refine ix_lstD 0 rfl (by assumption) ?_ | refine ix_ptrD 0 rfl 0 rfl rfl ?_ | refine ix_ptrD 1 rfl 0 rfl rfl ?_ | refine ix_ptrD 2 rfl 0 rfl rfl ?_
      refine wa_nil ?_
      walk_at "c_len"
      rw [List.length_map]
      walk_at "Mod"
      refine w_ix ?_
      refine w_name 1 rfl (.inl rfl) rfl ?_
      refine w_int ?_
      first | refine ix_tupD 0 rfl rfl ?_ | refine ix_lstD 0 rfl rfl ?_ | refine ix_tupD 0 rfl (by assumption) ?_ | refine ix_lstD 0 rfl (by assumption) ?_ | refine ix_ptrD 0 rfl 0 rfl rfl ?_ | refine ix_ptrD 1 rfl 0 rfl rfl ?_ | refine ix_ptrD 2 rfl 0 rfl rfl ?_
      walk_at "Eq"
      refine ⟨_, rfl, ?_⟩
      refine ⟨fun hb0 => ?_, fun hb0 => ⟨(by rw [eqf_nat] at hb0; simp [MeetAt, of_decide_eq_false hb0]), rfl⟩⟩
      refine ww_and1 ?_
      refine wt_cmp ?_
      refine w_bin ?_
      refine w_bin ?_
      refine w_name 3 rfl (.inl rfl) rfl ?_
      refine w_name 4 rfl (.inl rfl) rfl ?_
      first | refine o_addN ?_ | walk_at "Add"
      refine w_callB (id := "len") T.b_len ?_
      refine wa_cons ?_
      refine w_ix ?_
      refine w_name 0 rfl (.inl rfl) rfl ?_
      refine w_int ?_
      first | refine ix_tupD 1 rfl rfl ?_ | refine ix_lstD 1 rfl rfl ?_ | refine ix_tupD 1 rfl (by assumption) ?_ | refine ix_lstD 1 rfl (by assumption) ?_ | refine ix_ptrD 0 rfl 1 rfl rfl ?_ | refine ix_ptrD 1 rfl 1 rfl rfl ?_ | refine ix_ptrD 2 rfl 1 rfl rfl ?_
      refine wa_nil ?_
      walk_at "c_len"
      rw [List.length_map]
      walk_at "Mod"
      refine w_ix ?_
      refine w_name 1 rfl (.inl rfl) rfl ?_
      refine w_int ?_
      first | refine ix_tupD 1 rfl rfl ?_ | refine ix_lstD 1 rfl rfl ?_ | refine ix_tupD 1 rfl (by assumption) ?_ | refine ix_lstD 1 rfl (by assumption) ?_ | refine ix_ptrD 0 rfl 1 rfl rfl ?_ | refine ix_ptrD 1 rfl 1 rfl rfl ?_ | refine ix_ptrD 2 rfl 1 rfl rfl ?_
      walk_at "Eq"
      refine ⟨_, rfl, ?_⟩
      exact ⟨(by rw [eqf_nat] at hb0; simp [MeetAt, of_decide_eq_true hb0]; exact eqf_nat ((jj + go_round) % S.r.length) S.s), rfl⟩
    refine ⟨fun hb => ?_, fun hb => ?_⟩
    · -- return _law_go_round + 1
      refine w_cons (w_ret ?_)
      refine w_bin ?_
      refine w_name 4 rfl (.inl rfl) rfl ?_
      refine w_int ?_
      first | refine o_addN (b := 1) ?_ | walk_at "Add"
      rw [steps_at (by omega) (of_decide_eq_true hb) hno] at kq
      exact kq
    refine w_nil ?_
    refine w_nil ?_
    exact ⟨[_], rfl, ⟨_, (no_next hno hb), rfl, rfl⟩⟩
  rintro vs μ' ⟨w4, hno, rfl, rfl⟩
  refine wSs_rho (ρ' := [_, _, _, _, _]) rfl ?_
  -- return None
  refine w_cons (w_ret ?_)
  refine w_non ?_
  rw [steps_no hno] at kq
  exact kq
theorem ok_said (B : Src K mg "_law_said" s__law_said ["_law_machine_here", "_law_one", "_law_other", "_law_row"]) (T : Tx mg) (G_lets : KnG P w K mg base 2 "lets" ["machine", "room", "row"] S_lets) (G_run : KnG P w K mg base 1 "run" ["machine", "room", "row"] S_run) : KnG P w K mg base 3 "_law_said" ["_law_machine_here", "_law_one", "_law_other", "_law_row"] S_said := by
  refine kn_ofG B sc__law_said (fun ds μ Φ h => by obtain ⟨_, _, _, _, _, rfl, _⟩ := h; rfl) fun f cdv A outer s H E grd hr ds μ Φ h => ?_
  obtain ⟨m, most, a, b, row, rfl, hm, hmost, hp, hprt, hl, k⟩ := h
  obtain ⟨l1, l2, x, y, h1, h2, e1, e2, hxy⟩ := prt_run hprt
  have hla : (runM m (some a) row).1.length = row.length := by rw [h1, List.length_append]; exact e1
  have hlb : (runM m (some b) row).1.length = row.length := by rw [h2, List.length_append]; exact e2
  have hxa : (runM m (some a) row).1.map optD = l1.map optD ++ [optD (some x)] := by rw [h1, List.map_append]; rfl
  have hyb : (runM m (some b) row).1.map optD = l2.map optD ++ [optD (some y)] := by rw [h2, List.map_append]; rfl
  have hain := prt_ain hprt
  refine wSs_rho (ρ' := [_, _, _, _, _, _]) rfl ?_
  -- if lets(_law_machine_here, _law_one, _law_row) is not True or lets(_law_machine_here, _law_other, _law_row) is not True:
  refine w_cons (w_if ?_)
  refine wt_b (false) ?_ ?_
  · refine wt_w ?_
    refine ww_or ?_
    refine wt_cmp ?_
    refine w_callG G_lets hr ?_
    refine wa_cons ?_
    refine w_name 0 rfl (.inl rfl) rfl ?_
    refine wa_cons ?_
    refine w_name 1 rfl (.inl rfl) rfl ?_
    refine wa_cons ?_
    refine w_name 3 rfl (.inl rfl) rfl ?_
    refine wa_nil ?_
    refine ⟨m, most, some a, row, rfl, hm, fun x e => by cases e; exact hp.1, hain, by omega, ?_⟩
    rw [decide_eq_true hla]
    refine w_bl ?_
    refine o_notB ?_
    refine ⟨_, rfl, ?_⟩
    refine ⟨fun hb0 => ?_, fun hb0 => ⟨(by cases hb0), rfl⟩⟩
    refine ww_or1 ?_
    refine wt_cmp ?_
    refine w_callG G_lets hr ?_
    refine wa_cons ?_
    refine w_name 0 rfl (.inl rfl) rfl ?_
    refine wa_cons ?_
    refine w_name 2 rfl (.inl rfl) rfl ?_
    refine wa_cons ?_
    refine w_name 3 rfl (.inl rfl) rfl ?_
    refine wa_nil ?_
    refine ⟨m, most, some b, row, rfl, hm, fun x e => by cases e; exact hp.2, hain, by omega, ?_⟩
    rw [decide_eq_true hlb]
    refine w_bl ?_
    refine o_notB ?_
    refine ⟨_, rfl, ?_⟩
    exact ⟨(by rfl), rfl⟩
  refine ⟨fun hb => ?_, fun hb => ?_⟩
  · -- return False
    refine w_cons (w_ret ?_)
    refine w_bl ?_
    cases hb
  refine w_nil ?_
  -- _law_first_here = run(_law_machine_here, _law_one, _law_row)[0]
  refine w_cons (w_set 4 sc__law_said.nd rfl (.inl rfl) (.inl rfl) ?_)
  refine w_ix ?_
  refine w_callG G_run hr ?_
  refine wa_cons ?_
  refine w_name 0 rfl (.inl rfl) rfl ?_
  refine wa_cons ?_
  refine w_name 1 rfl (.inl rfl) rfl ?_
  refine wa_cons ?_
  refine w_name 3 rfl (.inl rfl) rfl ?_
  refine wa_nil ?_
  refine ⟨m, most, some a, row, rfl, hm, fun x e => by cases e; exact hp.1, hain, by omega, fun p1 => ?_⟩
  refine w_int ?_
  first | refine ix_tupD 0 rfl rfl ?_ | refine ix_lstD 0 rfl rfl ?_ | refine ix_tupD 0 rfl (by assumption) ?_ | refine ix_lstD 0 rfl (by assumption) ?_ | refine ix_ptrD 0 rfl 0 rfl rfl ?_ | refine ix_ptrD 1 rfl 0 rfl rfl ?_ | refine ix_ptrD 2 rfl 0 rfl rfl ?_
  -- _law_second = run(_law_machine_here, _law_other, _law_row)[0]
  refine w_cons (w_set 5 sc__law_said.nd rfl (.inl rfl) (.inl rfl) ?_)
  refine w_ix ?_
  refine w_callG G_run hr ?_
  refine wa_cons ?_
  refine w_name 0 rfl (.inl rfl) rfl ?_
  refine wa_cons ?_
  refine w_name 2 rfl (.inl rfl) rfl ?_
  refine wa_cons ?_
  refine w_name 3 rfl (.inl rfl) rfl ?_
  refine wa_nil ?_
  refine ⟨m, most, some b, row, rfl, hm, fun x e => by cases e; exact hp.2, hain, by omega, fun p2 => ?_⟩
  refine w_int ?_
  first | refine ix_tupD 0 rfl rfl ?_ | refine ix_lstD 0 rfl rfl ?_ | refine ix_tupD 0 rfl (by assumption) ?_ | refine ix_lstD 0 rfl (by assumption) ?_ | refine ix_ptrD 0 rfl 0 rfl rfl ?_ | refine ix_ptrD 1 rfl 0 rfl rfl ?_ | refine ix_ptrD 2 rfl 0 rfl rfl ?_
  -- return len(_law_first_here) == len(_law_row) and _law_first_here[-1] is not None and (_law_second[-1] is not None) and (_law_first_here[-1] != _law_second[-1])
  refine w_cons (w_ret (w_dr ?_))
  refine w_mono (Ψ := (fun d1 μ1 => d1 = .bl true ∧ μ.Sublist μ1)) ?_ ?_
  · refine w_andV ?_
    refine w_cmp ?_
    refine w_callB (id := "len") T.b_len ?_
    refine wa_cons ?_
    refine w_name 4 rfl (.inl rfl) rfl ?_
    refine wa_nil ?_
    refine c_lenP 1 rfl ?_
    rw [List.length_map, hla]
    refine w_callB (id := "len") T.b_len ?_
    refine wa_cons ?_
    refine w_name 3 rfl (.inl rfl) rfl ?_
    refine wa_nil ?_
    refine c_lenT ?_
    rw [List.length_map]
    refine o_eq rfl ?_
    refine ⟨_, rfl, fun hb0 => ?_, fun hb0 => ?_⟩
    rotate_left
    · simp [D.eqf] at hb0
    refine w_andV ?_
    refine w_cmp ?_
    refine w_ix ?_
    refine w_name 4 rfl (.inl rfl) rfl ?_
    refine w_un ?_
    refine w_int ?_
    walk_at "USub"
    refine ix_ptrN 1 rfl hxa ?_
    refine w_non ?_
    refine o_notN ?_
    refine ⟨_, rfl, fun hb1 => ?_, fun hb1 => ?_⟩
    rotate_left
    · cases hb1
    refine w_andV ?_
    refine w_cmp ?_
    refine w_ix ?_
    refine w_name 5 rfl (.inl rfl) rfl ?_
    refine w_un ?_
    refine w_int ?_
    walk_at "USub"
    refine ix_ptrN 0 rfl hyb ?_
    refine w_non ?_
    refine o_notN ?_
    refine ⟨_, rfl, fun hb2 => ?_, fun hb2 => ?_⟩
    rotate_left
    · cases hb2
    refine w_andV1 ?_
    refine w_cmp ?_
    refine w_ix ?_
    refine w_name 4 rfl (.inl rfl) rfl ?_
    refine w_un ?_
    refine w_int ?_
    walk_at "USub"
    refine ix_ptrN 1 rfl hxa ?_
    refine w_ix ?_
    refine w_name 5 rfl (.inl rfl) rfl ?_
    refine w_un ?_
    refine w_int ?_
    walk_at "USub"
    refine ix_ptrN 0 rfl hyb ?_
    refine o_ne rfl ?_
    exact ⟨by show D.bl (!((x : Int) == (y : Int))) = _; congr 1; rw [Bool.not_eq_true', beq_eq_false_iff_ne]; omega, (List.sublist_cons_self _ _).trans (List.sublist_cons_self _ _)⟩
  rintro d1 μ1 ⟨rfl, hs⟩
  exact ⟨_, hs, k⟩
end
end L09

namespace L09
open PySem PySem.Spec L2 Oc
open Evl (Ex)
local macro_rules | `(tactic| walk_at "s") => `(tactic| first | assumption | omega | decide | (simp only [] at *; omega))
local macro_rules | `(tactic| walk_at "Add") => `(tactic| first | refine o_addN ?_ | refine o_add ?_ | refine o_addS (by walk_at "s") ?_ | refine o_addT (by walk_at "s") ?_ | refine o_addL (by walk_at "s") ?_)
local macro_rules | `(tactic| walk_at "Sub") => `(tactic| refine o_sub ?_)
local macro_rules | `(tactic| walk_at "Mult") => `(tactic| refine o_mul (by walk_at "s") ?_)
local macro_rules | `(tactic| walk_at "Mod") => `(tactic| first | refine o_modN (by walk_at "s") ?_ | refine o_mod (by walk_at "s") ?_)
local macro_rules | `(tactic| walk_at "FloorDiv") => `(tactic| first | refine o_divN (by walk_at "s") ?_ | refine o_div (by walk_at "s") ?_)
local macro_rules | `(tactic| walk_at "Pow") => `(tactic| refine o_pow (by walk_at "s") ?_)
local macro_rules | `(tactic| walk_at "LShift") => `(tactic| refine o_shl (by walk_at "s") ?_)
local macro_rules | `(tactic| walk_at "RShift") => `(tactic| refine o_shr (by walk_at "s") ?_)
local macro_rules | `(tactic| walk_at "BitAnd") => `(tactic| refine o_band ?_)
local macro_rules | `(tactic| walk_at "BitXor") => `(tactic| refine o_bxor ?_)
local macro_rules | `(tactic| walk_at "BitOr") => `(tactic| refine o_bor ?_)
local macro_rules | `(tactic| walk_at "Lt") => `(tactic| refine o_lt ?_)
local macro_rules | `(tactic| walk_at "LtE") => `(tactic| refine o_le ?_)
local macro_rules | `(tactic| walk_at "Gt") => `(tactic| refine o_gt ?_)
local macro_rules | `(tactic| walk_at "GtE") => `(tactic| refine o_ge ?_)
local macro_rules | `(tactic| walk_at "Eq") => `(tactic| refine o_eq (by rfl) ?_)
local macro_rules | `(tactic| walk_at "NotEq") => `(tactic| refine o_ne (by rfl) ?_)
local macro_rules | `(tactic| walk_at "Is") => `(tactic| refine o_isN ?_)
local macro_rules | `(tactic| walk_at "IsNot") => `(tactic| refine o_notN ?_)
local macro_rules | `(tactic| walk_at "In") => `(tactic| refine o_in (by first | exact .inl rfl | exact .inr (.inl rfl) | exact .inr (.inr rfl)) (by rfl) (by rfl) ?_)
local macro_rules | `(tactic| walk_at "NotIn") => `(tactic| refine o_nin (by first | exact .inl rfl | exact .inr (.inl rfl) | exact .inr (.inr rfl)) (by rfl) (by rfl) ?_)
local macro_rules | `(tactic| walk_at "c_abs") => `(tactic| refine c_abs ?_)
local macro_rules | `(tactic| walk_at "c_len") => `(tactic| first | refine c_lenL ?_ | refine c_lenC ?_ | refine c_lenT ?_ | refine c_lenS (by walk_at "s") ?_ | refine c_lenP 0 (by first | assumption | rfl) ?_)
local macro_rules | `(tactic| walk_at "c_str") => `(tactic| refine c_str (by walk_at "s") ?_)
local macro_rules | `(tactic| walk_at "c_isinstance") => `(tactic| refine c_isi rfl (by rfl) ?_)
local macro_rules | `(tactic| walk_at "sl") => `(tactic| first | refine sd_tup ?_ | refine sd_lst ?_)
local macro_rules | `(tactic| walk_at "c_tuple") => `(tactic| first | refine c_tupL ?_ | refine c_tupP 0 (by first | assumption | rfl) ?_ | refine c_tupT ?_)
local macro_rules | `(tactic| walk_at "c_int") => `(tactic| first | refine c_intB ?_)
local macro_rules | `(tactic| walk_at "USub") => `(tactic| refine u_neg ?_)
local macro_rules | `(tactic| walk_at "pen") => `(tactic| first | assumption | exact get_set (by assumption) | exact get_set (get_set (by assumption)) | exact get_here | (apply get_cons; walk_at "pen") | (apply get_app; walk_at "pen"))
local macro_rules | `(tactic| walk_at "mu") => `(tactic| simp only [List.set_cons_succ, List.set_set, List.set_cons_zero])
/-! ### k09: two rings drawn -/
theorem perm_erase9 {l left : List Nat} {i x many : Nat} (h : (l ++ left).Perm (List.range many)) (hx : left[i]? = some x) : (l ++ [x] ++ left.eraseIdx i).Perm (List.range many) := by
  refine List.Perm.trans ?_ h
  rw [List.append_assoc]
  refine List.Perm.append_left l ?_
  obtain ⟨hi, rfl⟩ := List.getElem?_eq_some_iff.mp hx
  rw [List.singleton_append]
  clear h
  induction left generalizing i with
  | nil => exact absurd hi (Nat.not_lt_zero _)
  | cons a r ih =>
    cases i with
    | zero => exact List.Perm.refl _
    | succ i => exact (List.Perm.swap _ _ _).trans (List.Perm.cons _ (ih (i := i) (by simpa using hi) (by simpa using hi)))
def roomOf (R : Ring) (a asks k : Nat) : List Cell := (List.range asks).map fun o => R.cell a k o
abbrev Rms := List (Option (List Cell))
theorem spots_next {r s ring : List Nat} {sp : List Nat} {i v : Nat} (h : ∀ (t v : Nat), sp[t]? = some v → ∃ ring : List Nat, [r, s][t]? = some ring ∧ v < ring.length) (hl : sp.length = i) (hr : [r, s][i]? = some ring) (hv : v < ring.length) : ∀ (t w : Nat), (sp ++ [v])[t]? = some w → ∃ ring : List Nat, [r, s][t]? = some ring ∧ w < ring.length := fun t w e => by
  rcases Nat.lt_or_ge t sp.length with q | q
  · rw [List.getElem?_append_left q] at e
    exact h t w e
  · rw [List.getElem?_append_right q] at e
    have ht : t - sp.length = 0 := by
      have := (List.getElem?_eq_some_iff.mp e).1
      simpa using this
    rw [ht] at e
    cases e
    rw [show t = i by omega]
    exact ⟨ring, hr, hv⟩
theorem natsL_get {l : List Nat} {i : Nat} (h : i < l.length) : (l.map fun a : Nat => D.int a)[i]? = some (.int (l.getD i 0 : Nat)) := by
  rw [List.getElem?_map, List.getD_eq_getElem?_getD, List.getElem?_eq_getElem h]; rfl
theorem if_eqf (a b : Nat) : (if D.eqf (.int (a : Nat)) (.int (b : Nat)) = true then (1 : Int) else 0) = ((if a = b then 1 else 0 : Nat) : Int) := by
  by_cases e : a = b
  · subst e; simp [D.eqf]
  · rw [if_neg e, if_neg (by simp [D.eqf]; omega)]; rfl
def omD : Option (List Cell) → D
  | none => .non
  | some r => roomD r
/-- so far laid: the rings ahead of ring t, and the places ahead of k of it -/
structure Laid (rs : List Ring) (a asks many : Nat) (rms : List (Option (List Cell))) (t k : Nat) : Prop where
  len : rms.length = many
  at_ : ∀ t' i' R, rs[t']? = some R → i' < R.r.length → (t' < t ∨ (t' = t ∧ i' < k)) → rms[R.r.getD i' 0]? = some (some (roomOf R a asks i'))
theorem laid_next {rs : List Ring} {a asks many t k : Nat} {rms : List (Option (List Cell))} (h : Laid rs a asks many rms t k) {R : Ring} (hR : rs[t]? = some R) (hk : R.r.length ≤ k) : Laid rs a asks many rms (t + 1) 0 := by
  refine ⟨h.len, fun t' i' R' h1 h2 h3 => ?_⟩
  rcases h3 with h3 | h3
  · rcases Nat.lt_or_ge t' t with q | q
    · exact h.at_ t' i' R' h1 h2 (.inl q)
    · have e : t' = t := by omega
      subst e
      rw [hR] at h1
      cases h1
      exact h.at_ t' i' R hR h2 (.inr ⟨rfl, by omega⟩)
  · omega
theorem laid_set {R S : Ring} {a asks many t k : Nat} {rms : List (Option (List Cell))} (h : Laid [R, S] a asks many rms t k) (pm : (R.r ++ S.r).Perm (List.range many)) {X : Ring} (hX : [R, S][t]? = some X) (hk : k < X.r.length) :
    Laid [R, S] a asks many (rms.set (X.r.getD k 0) (some (roomOf X a asks k))) t (k + 1) := by
  have nd := (pm.nodup_iff).mpr List.nodup_range
  obtain ⟨n1, n2, dj⟩ := List.nodup_append.mp nd
  have inn : ∀ {t' : Nat} {Y : Ring} {i : Nat}, [R, S][t']? = some Y → i < Y.r.length → Y.r.getD i 0 < many := fun {t' Y i} h1 h2 => by
    have hm := getD_mem h2
    match t', h1 with
    | 0, h1 => cases h1; exact List.mem_range.mp (pm.mem_iff.mp (List.mem_append_left _ hm))
    | 1, h1 => cases h1; exact List.mem_range.mp (pm.mem_iff.mp (List.mem_append_right _ hm))
    | (n + 2), h1 => simp at h1
  have hxl : X.r.getD k 0 < rms.length := by rw [h.len]; exact inn hX hk
  refine ⟨by rw [List.length_set]; exact h.len, fun t' i' Y h1 h2 h3 => ?_⟩
  by_cases e : t' = t ∧ i' = k
  · obtain ⟨rfl, rfl⟩ := e
    rw [hX] at h1
    cases h1
    exact List.getElem?_set_self hxl
  · have old := h.at_ t' i' Y h1 h2 (by omega)
    rw [List.getElem?_set_ne]
    · exact old
    · intro q
      have hy := getD_mem h2
      have hx := getD_mem hk
      match t, t', hX, h1 with
      | 0, 0, hX, h1 => cases hX; cases h1; exact e ⟨rfl, (getD_inj n1 hk h2 q).symm⟩
      | 0, 1, hX, h1 => cases hX; cases h1; exact dj _ hx _ hy q
      | 1, 0, hX, h1 => cases hX; cases h1; exact dj _ hy _ hx q.symm
      | 1, 1, hX, h1 => cases hX; cases h1; exact e ⟨rfl, (getD_inj n2 hk h2 q).symm⟩
      | (n + 2), _, hX, _ => simp at hX
      | _, (n + 2), _, h1 => simp at h1
def machOf (asks : Nat) (rms : List (Option (List Cell))) : Mach := ⟨asks, rms.map fun o => o.getD []⟩
theorem laid_all {R S : Ring} {a asks many : Nat} {rms : List (Option (List Cell))} (h : Laid [R, S] a asks many rms 2 0) (pm : (R.r ++ S.r).Perm (List.range many)) : ∀ x, x < many → ∃ Y i, (Y = R ∨ Y = S) ∧ i < Y.r.length ∧ Y.r.getD i 0 = x ∧ rms[x]? = some (some (roomOf Y a asks i)) := fun x hx => by
  rcases List.mem_append.mp (pm.mem_iff.mpr (List.mem_range.mpr hx)) with q | q
  · obtain ⟨i, hi, e⟩ := getD_idx q
    exact ⟨R, i, .inl rfl, hi, e, by rw [← e]; exact h.at_ 0 i R rfl hi (.inl (by decide))⟩
  · obtain ⟨i, hi, e⟩ := getD_idx q
    exact ⟨S, i, .inr rfl, hi, e, by rw [← e]; exact h.at_ 1 i S rfl hi (.inl (by decide))⟩
theorem laid_machD {R S : Ring} {a asks many : Nat} {rms : List (Option (List Cell))} (h : Laid [R, S] a asks many rms 2 0) (pm : (R.r ++ S.r).Perm (List.range many)) : rms.map omD = (machOf asks rms).rooms.map roomD := by
  show rms.map omD = (rms.map fun o => o.getD []).map roomD
  rw [List.map_map]
  refine List.map_congr_left fun o ho => ?_
  obtain ⟨x, hx⟩ := List.getElem?_of_mem ho
  have hxl := (List.getElem?_eq_some_iff.mp hx).1
  obtain ⟨Y, i, _, _, _, e⟩ := laid_all h pm x (by rw [← h.len]; exact hxl)
  rw [hx] at e
  cases e
  rfl
theorem laid_cell {R S : Ring} {a asks many : Nat} {rms : List (Option (List Cell))} (h : Laid [R, S] a asks many rms 2 0) {t i o : Nat} {Y : Ring} (hY : [R, S][t]? = some Y) (ht : t < 2) (hi : i < Y.r.length) (ho : o < asks) : (machOf asks rms).cell (Y.r.getD i 0) o = Y.cell a i o := by
  have e := h.at_ t i Y hY hi (.inl ht)
  unfold Mach.cell machOf
  show ((rms.map fun o => o.getD []).getD _ []).getD o (none, none) = _
  rw [List.getD_eq_getElem?_getD (l := rms.map fun o => o.getD []), List.getElem?_map, e]
  show (roomOf Y a asks i).getD o (none, none) = _
  unfold roomOf
  rw [List.getD_eq_getElem?_getD, List.getElem?_map, List.getElem?_range ho]
  rfl
theorem laid_rings {R S : Ring} {a asks many : Nat} {rms : List (Option (List Cell))} (h : Laid [R, S] a asks many rms 2 0) (pm : (R.r ++ S.r).Perm (List.range many)) (ha : a < asks) (hR : 0 < R.r.length) (hS : 0 < S.r.length) (hh : R.h ≠ S.h) (hsz : R.r.length * S.r.length ≤ 10000) : Rings (machOf asks rms) a R S := by
  have hlen : (machOf asks rms).rooms.length = many := by show (rms.map _).length = _; rw [List.length_map, h.len]
  refine ⟨ha, ⟨hR, fun x hx => ?_, fun k hk o ho => laid_cell h (t := 0) rfl (by decide) hk ho⟩, ⟨hS, fun x hx => ?_, fun k hk o ho => laid_cell h (t := 1) rfl (by decide) hk ho⟩, by rw [hlen]; exact pm, hh, hsz⟩
  · rw [hlen]; exact List.mem_range.mp (pm.mem_iff.mp (List.mem_append_left _ hx))
  · rw [hlen]; exact List.mem_range.mp (pm.mem_iff.mp (List.mem_append_right _ hx))
theorem laid_ok {R S : Ring} {a asks many : Nat} {rms : List (Option (List Cell))} (h : Laid [R, S] a asks many rms 2 0) (pm : (R.r ++ S.r).Perm (List.range many)) (ha : 0 < asks ∧ asks ≤ 4) (hm : 0 < many ∧ many ≤ 24) (hR : R.h < 8) (hS : S.h < 8) : (machOf asks rms).Ok 24 := by
  have hlen : (machOf asks rms).rooms.length = many := by show (rms.map _).length = _; rw [List.length_map, h.len]
  refine ⟨ha.1, ha.2, by omega, by omega, fun r hr => ?_⟩
  obtain ⟨o, ho, rfl⟩ := List.mem_map.mp (show r ∈ rms.map fun o => o.getD [] from hr)
  obtain ⟨x, hx⟩ := List.getElem?_of_mem ho
  have hxl := (List.getElem?_eq_some_iff.mp hx).1
  obtain ⟨Y, i, hY, hi, _, e⟩ := laid_all h pm x (by rw [← h.len]; exact hxl)
  rw [hx] at e
  cases e
  show (roomOf Y a asks i).length = asks ∧ ∀ c ∈ roomOf Y a asks i, cOk _ 8 c
  unfold roomOf
  refine ⟨by rw [List.length_map, List.length_range], fun c hc => ?_⟩
  obtain ⟨o, _, rfl⟩ := List.mem_map.mp hc
  have hin : Y.r.getD (Y.nx i) 0 < many := by
    have hm2 := getD_mem (nx_lt (R := Y) (by omega) i)
    rcases hY with rfl | rfl
    · exact List.mem_range.mp (pm.mem_iff.mp (List.mem_append_left _ hm2))
    · exact List.mem_range.mp (pm.mem_iff.mp (List.mem_append_right _ hm2))
  have hYh : Y.h < 8 := by rcases hY with rfl | rfl <;> assumption
  unfold Ring.cell
  split
  · refine ⟨fun g e => ?_, fun s e => ?_⟩
    · cases e
      rw [hlen]
      exact hin
    · split at e
      · cases e; exact hYh
      · cases e
  · exact ⟨fun g e => (nomatch e), fun s e => (nomatch e)⟩
def S_rings : FS := fun ds μ Φ => ∃ (ns : List Int) (n : Nat) (q : Addr) (i : Nat), ds = [.ptr q] ∧ μ[i]? = some (q, penO ns n) ∧ n ≤ 500000 ∧
  ∀ (m : Mach) (a : Nat) (R S : Ring) (n' : Nat) μ', Rings m a R S → m.Ok 24 → R.r.length + S.r.length = m.rooms.length → n' ≤ n + 100 → μ' = μ.set i (q, penO ns n') →
    Φ (.tup [machD m, .int a, .lst [natsL R.r, natsL S.r], .lst [.int R.s, .int S.s]]) μ'
section
variable {P : Program} {w : World} {K : PySem.W.Frag} {mg : Str → Option Value} {base : Heap}
theorem ok_rings (B : Src K mg "_law_rings" s__law_rings ["_law_pen"]) (T : Tx mg) (G__law_take : KnG P w K mg base 1 "_law_take" ["_law_pen", "_law_many"] S_draw) : KnG P w K mg base 2 "_law_rings" ["_law_pen"] S_rings := by
  refine kn_ofG B sc__law_rings (fun ds μ Φ h => by obtain ⟨_, _, _, _, rfl, _⟩ := h; rfl) fun f cdv A outer s H E grd hr ds μ Φ h => ?_
  obtain ⟨ns, n, q, ip, rfl, hpen, hn, kq⟩ := h
  refine wSs_rho (ρ' := [_, _, _, _, _, _, _, _, _, _, _, _, _, _, _, _, _]) rfl ?_
  -- _law_heard = [_law_take(_law_pen, 8), _law_take(_law_pen, 7)]
  refine w_cons (w_set 1 sc__law_rings.nd rfl (.inl rfl) (.inl rfl) ?_)
  refine w_lstM ?_
  refine wa_cons ?_
  refine w_callG G__law_take hr ?_
  refine wa_cons ?_
  refine w_name 0 rfl (.inr (.inl rfl)) rfl ?_
  refine wa_cons ?_
  refine w_int ?_
  refine wa_nil ?_
  refine ⟨_, _, _, _, _, rfl, by walk_at "pen", by omega, by omega, fun r1 μ1 hr1 e1 => ?_⟩
  try simp only [List.set_cons_succ, List.set_set, List.set_cons_zero] at e1
  subst e1
  refine wa_cons ?_
  refine w_callG G__law_take hr ?_
  refine wa_cons ?_
  refine w_name 0 rfl (.inr (.inl rfl)) rfl ?_
  refine wa_cons ?_
  refine w_int ?_
  refine wa_nil ?_
  refine ⟨_, _, _, _, _, rfl, by walk_at "pen", by omega, by omega, fun r2 μ2 hr2 e2 => ?_⟩
  try simp only [List.set_cons_succ, List.set_set, List.set_cons_zero] at e2
  subst e2
  refine wa_nil ?_
  refine ⟨by simp, fun ph => ?_⟩
  -- _law_heard[1] = (_law_heard[0] + 1 + _law_heard[1]) % 8
  refine w_cons (w_lset ?_)
  refine w_bin ?_
  refine w_bin ?_
  refine w_bin ?_
  refine w_ix ?_
  refine w_name 1 rfl (.inl rfl) rfl ?_
  refine w_int ?_
  first | refine ix_tupD 0 rfl rfl ?_ | refine ix_lstD 0 rfl rfl ?_ | refine ix_tupD 0 rfl (by assumption) ?_ | refine ix_lstD 0 rfl (by assumption) ?_ | refine ix_ptrD 0 rfl 0 rfl rfl ?_ | refine ix_ptrD 1 rfl 0 rfl rfl ?_ | refine ix_ptrD 2 rfl 0 rfl rfl ?_
  refine w_int ?_
  first | refine o_addN (b := 1) ?_ | walk_at "Add"
  refine w_ix ?_
  refine w_name 1 rfl (.inl rfl) rfl ?_
  refine w_int ?_
  first | refine ix_tupD 1 rfl rfl ?_ | refine ix_lstD 1 rfl rfl ?_ | refine ix_tupD 1 rfl (by assumption) ?_ | refine ix_lstD 1 rfl (by assumption) ?_ | refine ix_ptrD 0 rfl 1 rfl rfl ?_ | refine ix_ptrD 1 rfl 1 rfl rfl ?_ | refine ix_ptrD 2 rfl 1 rfl rfl ?_
  first | refine o_addN ?_ | walk_at "Add"
  refine w_int ?_
  refine o_modN (b := 8) (by decide) ?_
  refine w_name 1 rfl (.inl rfl) rfl ?_
  refine w_int ?_
  refine ⟨_, 0, _, 1, rfl, rfl, rfl, (by show 1 < 2; decide), ?_⟩
  simp only [List.set_cons_zero, List.set_cons_succ]
  refine wSs_fz (i := 0) (j := 1) rfl rfl ?_
  obtain ⟨h2, hh2⟩ : ∃ h2, h2 = (r1 + 1 + r2) % 8 := ⟨_, rfl⟩
  simp only [← hh2, List.eraseIdx_cons_zero]
  have hne : r1 ≠ h2 := by omega
  have h28 : h2 < 8 := by omega
  -- _law_asks = 1 + _law_take(_law_pen, 4)
  refine w_cons (w_set 2 sc__law_rings.nd rfl (.inl rfl) (.inl rfl) ?_)
  refine w_bin ?_
  refine w_int ?_
  refine w_callG G__law_take hr ?_
  refine wa_cons ?_
  refine w_name 0 rfl (.inr (.inl rfl)) rfl ?_
  refine wa_cons ?_
  refine w_int ?_
  refine wa_nil ?_
  refine ⟨_, _, _, _, _, rfl, by walk_at "pen", by omega, by omega, fun r3 μ3 hr3 e3 => ?_⟩
  try simp only [List.set_cons_succ, List.set_set, List.set_cons_zero] at e3
  subst e3
  first | refine o_addN (a := 1) ?_ | walk_at "Add"
  obtain ⟨asks, hasks⟩ : ∃ asks, asks = 1 + r3 := ⟨_, rfl⟩
  rw [← hasks]
  -- _law_ask = _law_take(_law_pen, _law_asks)
  refine w_cons (w_set 3 sc__law_rings.nd rfl (.inr rfl) (.inl rfl) ?_)
  refine w_callG G__law_take hr ?_
  refine wa_cons ?_
  refine w_name 0 rfl (.inr (.inl rfl)) rfl ?_
  refine wa_cons ?_
  refine w_name 2 rfl (.inl rfl) rfl ?_
  refine wa_nil ?_
  refine ⟨_, _, _, _, _, rfl, by walk_at "pen", by omega, by omega, fun r4 μ4 hr4 e4 => ?_⟩
  try simp only [List.set_cons_succ, List.set_set, List.set_cons_zero] at e4
  subst e4
  -- _law_many = 2 + _law_take(_law_pen, 23)
  refine w_cons (w_set 4 sc__law_rings.nd rfl (.inl rfl) (.inl rfl) ?_)
  refine w_bin ?_
  refine w_int ?_
  refine w_callG G__law_take hr ?_
  refine wa_cons ?_
  refine w_name 0 rfl (.inr (.inl rfl)) rfl ?_
  refine wa_cons ?_
  refine w_int ?_
  refine wa_nil ?_
  refine ⟨_, _, _, _, _, rfl, by walk_at "pen", by omega, by omega, fun r5 μ5 hr5 e5 => ?_⟩
  try simp only [List.set_cons_succ, List.set_set, List.set_cons_zero] at e5
  subst e5
  first | refine o_addN (a := 2) ?_ | walk_at "Add"
  obtain ⟨many, hmany⟩ : ∃ many, many = 2 + r5 := ⟨_, rfl⟩
  rw [← hmany]
  -- _law_cut = 1 + _law_take(_law_pen, _law_many - 1)
  refine w_cons (w_set 5 sc__law_rings.nd rfl (.inl rfl) (.inl rfl) ?_)
  refine w_bin ?_
  refine w_int ?_
  refine w_callG G__law_take hr ?_
  refine wa_cons ?_
  refine w_name 0 rfl (.inr (.inl rfl)) rfl ?_
  refine wa_cons ?_
  refine w_bin ?_
  refine w_name 4 rfl (.inl rfl) rfl ?_
  refine w_int ?_
  walk_at "Sub"
  refine wa_nil ?_
  refine ⟨_, _, _, _, _, rfl, by walk_at "pen", by omega, by omega, fun r6 μ6 hr6 e6 => ?_⟩
  try simp only [List.set_cons_succ, List.set_set, List.set_cons_zero] at e6
  subst e6
  first | refine o_addN (a := 1) ?_ | walk_at "Add"
  obtain ⟨cut, hcut⟩ : ∃ cut, cut = 1 + r6 := ⟨_, rfl⟩
  rw [← hcut]
  -- _law_left = list(range(_law_many))
  refine w_cons (w_set 6 sc__law_rings.nd rfl (.inr rfl) (.inl rfl) ?_)
  refine w_listRg1 rfl T.b_list T.b_range ?_
  refine w_name 4 rfl (.inl rfl) rfl ?_
  refine ⟨many, rfl, by omega, fun pl => ?_⟩
  rw [Int.toNat_natCast, rng_nats]
  -- _law_names = [_law_left.pop(_law_take(_law_pen, len(_law_left))) for _law_k in range(_law_many)]
  refine w_cons (w_setLc (own := [("_law_k", 8)]) 7 (.one 8) (by decide) rfl sc__law_rings.nd rfl rfl (blkOk_by (N := N__law_rings) (sc := defScope s__law_rings) (by decide +kernel)) (sw_true rfl rfl rfl (by decide +kernel)) (fun _ _ _ _ _ => pg_name (i := 8) sc__law_rings.nd rfl (by first | exact .inl rfl | exact .inr rfl)) ?_)
  refine lcW_of ?_
  refine wi_rngN T.b_range ?_
  refine w_name 4 rfl (.inl rfl) rfl ?_
  refine ⟨_, by rfl, by omega, ?_⟩
  refine ⟨by rw [nats_len]; omega, fun i acc μ2 => ∃ (l left : List Nat) (c : Nat), (l ++ left).Perm (List.range many) ∧ l.length = i ∧ c ≤ n + 6 + i ∧ acc = l.map (fun a : Nat => D.int a) ∧ μ2 = (pl, .lst (left.map fun a : Nat => D.int a)) :: μ.set ip (q, penO ns c), ⟨[], List.range many, n + 1 + 1 + 1 + 1 + 1 + 1, List.Perm.refl _, rfl, by omega, rfl, rfl⟩, ?_, ?_⟩
  · rintro p2 i x acc μ2 hx ⟨l, left, c, hp, hl, hc, rfl, rfl⟩
    obtain ⟨hi, rfl⟩ := nats_get hx
    have hlen := hp.length_eq
    rw [List.length_append, List.length_range] at hlen
    refine ⟨_, rfl, fun _ _ _ _ _ => ?_⟩
    refine ⟨fun _ _ _ _ _ _ => ?_, fun hb => (nomatch hb)⟩
    refine w_popAt ?_
    refine w_name 6 rfl (.inr (.inl rfl)) rfl ?_
    first | refine ⟨.inl ⟨rfl, 0, _, rfl⟩, ?_⟩ | refine ⟨.inl ⟨rfl, 1, _, rfl⟩, ?_⟩ | refine ⟨.inl ⟨rfl, 2, _, rfl⟩, ?_⟩ | refine ⟨.inl ⟨rfl, 3, _, rfl⟩, ?_⟩ | refine ⟨rfl, ?_⟩
    refine wa_cons ?_
    refine w_callG G__law_take hr ?_
    refine wa_cons ?_
    refine w_name 0 rfl (.inr (.inl rfl)) rfl ?_
    refine wa_cons ?_
    refine w_callB (id := "len") T.b_len ?_
    refine wa_cons ?_
    refine w_name 6 rfl (.inr (.inl rfl)) rfl ?_
    refine wa_nil ?_
    refine c_lenP 1 rfl ?_
    rw [List.length_map]
    refine wa_nil ?_
    refine ⟨_, _, _, _, _, rfl, by walk_at "pen", by omega, by omega, fun r7 μ7 hr7 e7 => ?_⟩
    try simp only [List.set_cons_succ, List.set_set, List.set_cons_zero] at e7
    subst e7
    refine wa_nil ?_
    obtain ⟨v, hv, _⟩ := get_of_lt (show r7 < left.length by omega)
    refine m_popAt 1 rfl r7 (map_at hv) (by rw [List.length_map]; omega) ?_
    rw [Oc.map_eraseIdx]
    refine ⟨_, rfl, ?_⟩
    exact ⟨l ++ [v], left.eraseIdx r7, c + 1, perm_erase9 hp hv, by rw [List.length_append, hl]; rfl, by omega, by rw [List.map_append]; rfl, rfl⟩
  rintro p2 acc μ2 ⟨names, left, c, hp, hl, hc, rfl, rfl⟩
  rw [nats_len] at hl hc
  have hlen := hp.length_eq
  rw [List.length_append, List.length_range] at hlen
  obtain rfl : left = [] := List.eq_nil_of_length_eq_zero (by omega)
  rw [List.append_nil] at hp
  refine ⟨_, _, _, rfl, rfl, .inl ?_⟩
  refine wSs_sub (List.sublist_cons_self _ _) ?_
  obtain ⟨r, hrr⟩ : ∃ r, r = names.take cut := ⟨_, rfl⟩
  obtain ⟨s, hss⟩ : ∃ s, s = names.drop cut := ⟨_, rfl⟩
  have hrl : r.length = cut := by rw [hrr, List.length_take]; omega
  have hsl : s.length = many - cut := by rw [hss, List.length_drop]; omega
  have pm : (r ++ s).Perm (List.range many) := by rw [hrr, hss, List.take_append_drop]; exact hp
  -- _law_rings_here = [_law_names[:_law_cut], _law_names[_law_cut:]]
  refine w_cons (w_set 9 sc__law_rings.nd rfl (.inl rfl) (.inl rfl) ?_)
  refine w_lst ?_
  refine wa_cons ?_
  refine w_sl ?_
  refine w_name 7 rfl (.inl rfl) rfl ?_
  refine wo_none ?_
  refine wo_some ?_
  refine w_name 5 rfl (.inl rfl) rfl ?_
  refine ⟨_, rfl, ?_⟩
  refine sd_lst ?_
  rw [cutD_to, ← List.map_take, ← hrr]
  refine wa_cons ?_
  refine w_sl ?_
  refine w_name 7 rfl (.inl rfl) rfl ?_
  refine wo_some ?_
  refine w_name 5 rfl (.inl rfl) rfl ?_
  refine ⟨_, rfl, ?_⟩
  refine wo_none ?_
  refine sd_lst ?_
  rw [cutD_from, ← List.map_drop, ← hss]
  refine wa_nil ?_
  refine ⟨by simp, ?_⟩
  -- _law_spots = [_law_take(_law_pen, len(_law_ring)) for _law_ring in _law_rings_here]
  refine w_cons (w_setLc (own := [("_law_ring", 11)]) 10 (.one 11) (by decide) rfl sc__law_rings.nd rfl rfl (blkOk_by (N := N__law_rings) (sc := defScope s__law_rings) (by decide +kernel)) (sw_true rfl rfl rfl (by decide +kernel)) (fun _ _ _ _ _ => pg_name (i := 11) sc__law_rings.nd rfl (by first | exact .inl rfl | exact .inr rfl)) ?_)
  refine lcW_of ?_
  refine wi_lst ?_
  refine w_name 9 rfl (.inl rfl) rfl ?_
  refine ⟨_, rfl, ?_⟩
  refine ⟨by show 2 ≤ 1000000; decide, fun i acc μ2 => ∃ (sp : List Nat) (c2 : Nat), sp.length = i ∧ (∀ (t v : Nat), sp[t]? = some v → ∃ ring : List Nat, [r, s][t]? = some ring ∧ v < ring.length) ∧ c2 ≤ c + i ∧ acc = sp.map (fun a : Nat => D.int a) ∧ μ2 = μ.set ip (q, penO ns c2), ⟨[], c, rfl, (fun t v h => by cases h), by omega, rfl, rfl⟩, ?_, ?_⟩
  · rintro p2 i x acc μ2 hx ⟨sp, c2, hspl, hsp, hc2, rfl, rfl⟩
    obtain ⟨ring, hring, hrg0, rfl⟩ : ∃ ring : List Nat, [r, s][i]? = some ring ∧ (0 < ring.length ∧ ring.length ≤ 24) ∧ x = natsL ring := by
      match i, hx with
      | 0, hx => exact ⟨r, rfl, by omega, (Option.some.inj hx).symm⟩
      | 1, hx => exact ⟨s, rfl, by omega, (Option.some.inj hx).symm⟩
      | (n + 2), hx => exact absurd hx (by simp)
    refine ⟨_, rfl, fun _ _ _ _ _ => ?_⟩
    refine ⟨fun _ _ _ _ _ _ => ?_, fun hb => (nomatch hb)⟩
    refine w_callG G__law_take hr ?_
    refine wa_cons ?_
    refine w_name 0 rfl (.inr (.inl rfl)) rfl ?_
    refine wa_cons ?_
    refine w_callB (id := "len") T.b_len ?_
    refine wa_cons ?_
    refine w_name 11 rfl (.inl rfl) rfl ?_
    refine wa_nil ?_
    have hi2 : i < 2 := (List.getElem?_eq_some_iff.mp hring).1
    refine c_lenL ?_
    rw [List.length_map]
    refine wa_nil ?_
    refine ⟨_, _, _, _, _, rfl, by walk_at "pen", by omega, by omega, fun r8 μ8 hr8 e8 => ?_⟩
    try simp only [List.set_cons_succ, List.set_set, List.set_cons_zero] at e8
    subst e8
    refine ⟨_, rfl, ?_⟩
    exact ⟨sp ++ [r8], c2 + 1, by rw [List.length_append, hspl]; rfl, spots_next hsp hspl hring (by omega), by omega, by rw [List.map_append]; rfl, rfl⟩
  rintro p2 acc μ2 ⟨sp, c2, hspl, hsp, hc2, rfl, rfl⟩
  have hc2 : c2 ≤ c + 2 := hc2
  obtain ⟨s1, s2, rfl⟩ : ∃ s1 s2, sp = [s1, s2] := by
    match sp, hspl with
    | [a, b], _ => exact ⟨a, b, rfl⟩
  have hs1 : s1 < r.length := by obtain ⟨g, e, h⟩ := hsp 0 s1 rfl; cases e; exact h
  have hs2 : s2 < s.length := by obtain ⟨g, e, h⟩ := hsp 1 s2 rfl; cases e; exact h
  refine ⟨_, _, _, rfl, rfl, .inl ?_⟩
  obtain ⟨R, hR⟩ : ∃ R : Ring, R = ⟨r, s1, r1⟩ := ⟨_, rfl⟩
  obtain ⟨S, hS⟩ : ∃ S : Ring, S = ⟨s, s2, h2⟩ := ⟨_, rfl⟩
  have hRr : R.r = r := by rw [hR]
  have hSr : S.r = s := by rw [hS]
  -- _law_rooms = [None] * _law_many
  refine w_cons (w_set 12 sc__law_rings.nd rfl (.inl rfl) (.inl rfl) ?_)
  refine w_bin ?_
  refine w_lst ?_
  refine wa_cons ?_
  refine w_non ?_
  refine wa_nil ?_
  refine ⟨by simp, ?_⟩
  refine w_name 4 rfl (.inl rfl) rfl ?_
  refine o_repL (ds := [.non]) (k := (many : Nat)) ⟨by omega, by omega⟩ (by show 1 ≤ 1000; decide) fun pr => ?_
  have pmR : (R.r ++ S.r).Perm (List.range many) := by rw [hRr, hSr]; exact pm
  -- for _law_ring, _law_spot, _law_answer in zip(_law_rings_here, _law_spots, _law_heard):
  refine w_cons (w_forV [11, 13, 14, 8, 15] ?_ PassesOwn.never rfl)
  refine wi_zip3 T.b_zip ?_
  refine w_name 9 rfl (.inl rfl) rfl ?_
  refine w_name 10 rfl (.inl rfl) rfl ?_
  refine w_name 1 rfl (.inl rfl) rfl ?_
  refine ⟨_, _, _, rfl, rfl, rfl, ?_⟩
  refine ⟨_, fun i vs μ' => ∃ (rms : Rms) (w11 w13 w14 w8 w15 : Option D), (Laid [R, S] r4 asks many rms i 0) ∧ vs = [w11, w13, w14, w8, w15] ∧ (pr, .lst (rms.map omD)) :: μ.set ip (q, penO ns c2) = μ', (by first | exact nats_len | exact nats2_len | exact enumD_len.trans (List.length_map _) | exact enumD_len | exact List.length_map _ | exact rfl | simp), ⟨List.replicate many none, _, _, _, _, _, ⟨List.length_replicate, fun t' i' R' h1 h2 h3 => by omega⟩, rfl, (by rw [List.map_replicate, Int.toNat_natCast, List.flatten_replicate_singleton]; rfl)⟩, ?_, ?_⟩
  · rintro ie x vs μ' hx ⟨rms, w11, w13, w14, w8, w15, hlay, rfl, rfl⟩
    refine wG_rho (ρ' := [_, _, _, _, _, _, _, _, _, _, _, _, _, _, _, _, _]) rfl ?_
    obtain ⟨Y, hY, hY24, rfl⟩ : ∃ Y : Ring, [R, S][ie]? = some Y ∧ (0 < Y.r.length ∧ Y.r.length ≤ 24) ∧ x = .tup [natsL Y.r, .int Y.s, .int Y.h] := by
      match ie, hx with
      | 0, hx => exact ⟨R, rfl, by rw [hRr]; omega, by rw [hR]; exact (Option.some.inj hx).symm⟩
      | 1, hx => exact ⟨S, rfl, by rw [hSr]; omega, by rw [hS]; exact (Option.some.inj hx).symm⟩
      | (n + 2), hx => exact absurd hx (by simp [zip3D])
    first | refine wg_tup rfl rfl ?_ | refine wg_lst rfl rfl ?_
    refine wgs_cons ?_
    refine wg_name 11 sc__law_rings.nd rfl (.inl rfl) (.inl rfl) ?_
    refine wgs_cons ?_
    refine wg_name 13 sc__law_rings.nd rfl (.inl rfl) (.inl rfl) ?_
    refine wgs_cons ?_
    refine wg_name 14 sc__law_rings.nd rfl (.inl rfl) (.inl rfl) ?_
    refine wgs_nil ?_
    -- for _law_k in range(len(_law_ring)):
    refine w_cons (w_forV [8, 15] ?_ PassesOwn.never rfl)
    refine wi_rngN T.b_range ?_
    refine w_callB (id := "len") T.b_len ?_
    refine wa_cons ?_
    refine w_name 11 rfl (.inl rfl) rfl ?_
    refine wa_nil ?_
    refine c_lenL ?_
    rw [List.length_map]
    refine ⟨_, by rfl, by omega, ?_⟩
    refine ⟨_, fun i vs μ' => ∃ (rms2 : Rms) (w8 w15 : Option D), (Laid [R, S] r4 asks many rms2 ie i) ∧ vs = [w8, w15] ∧ (pr, .lst (rms2.map omD)) :: μ.set ip (q, penO ns c2) = μ', (by first | exact nats_len | exact nats2_len | exact enumD_len.trans (List.length_map _) | exact enumD_len | exact List.length_map _ | exact rfl | simp), ⟨rms, _, _, hlay, rfl, rfl⟩, ?_, ?_⟩
    · rintro k x vs μ' hx ⟨rms2, w8, w15, hlay2, rfl, rfl⟩
      refine wG_rho (ρ' := [_, _, _, _, _, _, _, _, _, _, _, _, _, _, _, _, _]) rfl ?_
      obtain ⟨hk, rfl⟩ := nats_get hx
      refine wg_name 8 sc__law_rings.nd rfl (.inl rfl) (.inl rfl) ?_
      -- _law_cell_here = (_law_ring[(_law_k + 1) % len(_law_ring)], [None, _law_answer][int(_law_k == _law_spot)])
      refine w_cons (w_set 15 sc__law_rings.nd rfl (.inr rfl) (.inl rfl) ?_)
      refine w_tup ?_
      refine wa_cons ?_
      refine w_ix ?_
      refine w_name 11 rfl (.inl rfl) rfl ?_
      refine w_bin ?_
      refine w_bin ?_
      refine w_name 8 rfl (.inl rfl) rfl ?_
      refine w_int ?_
      first | refine o_addN (b := 1) ?_ | walk_at "Add"
      refine w_callB (id := "len") T.b_len ?_
      refine wa_cons ?_
      refine w_name 11 rfl (.inl rfl) rfl ?_
      refine wa_nil ?_
      refine c_lenL ?_
      rw [List.length_map]
      refine o_modN (by omega) ?_
      refine ix_lstD (Y.nx k) rfl (natsL_get (nx_lt hY24.1 k)) ?_
      refine wa_cons ?_
      refine w_ix ?_
      refine w_lst ?_
      refine wa_cons ?_
      refine w_non ?_
      refine wa_cons ?_
      refine w_name 14 rfl (.inl rfl) rfl ?_
      refine wa_nil ?_
      refine ⟨by simp, ?_⟩
      refine w_callTy (T := "int") T.b_int ?_
      refine wa_cons ?_
      refine w_cmp ?_
      refine w_name 8 rfl (.inl rfl) rfl ?_
      refine w_name 13 rfl (.inl rfl) rfl ?_
      walk_at "Eq"
      refine wa_nil ?_
      walk_at "c_int"
      rw [if_eqf]
      refine ix_lstD (if k = Y.s then 1 else 0) rfl (d := optD (if k = Y.s then some Y.h else none)) (by split <;> rfl) ?_
      refine wa_nil ?_
      refine ⟨by simp, ?_⟩
      -- _law_rooms[_law_ring[_law_k]] = tuple([[(None, None), _law_cell_here][int(_law_other == _law_ask)] for _law_other in range(_law_asks)])
      refine w_cons (w_lset ?_)
      refine w_callTy (T := "tuple") T.b_tuple ?_
      refine wa_cons ?_
      -- comp [[(None, None), _law_cell_here][int(_law_other == _law_ask)] for _law_other in range(_law_asks)]
      refine w_fz0 (w_lcM (own := [("_law_other", 16)]) (.one 16) (by decide) rfl sc__law_rings.nd (blkOk_by (N := N__law_rings) (sc := defScope s__law_rings) (by decide +kernel)) (fun _ _ _ _ _ => pg_name (i := 16) sc__law_rings.nd rfl (by first | exact .inl rfl | exact .inr rfl)) ?_)
      refine lcW_of ?_
      refine wi_rngN T.b_range ?_
      refine w_name 2 rfl (.inl rfl) rfl ?_
      refine ⟨_, by rfl, by omega, ?_⟩
      refine lcq_map ((List.range asks)) _ ((fun o => cellD (Y.cell r4 k o))) rfl (by first | omega | (simp only [List.length_map, List.length_range]; omega) | (simp; omega)) ?_ ?_
      · intro p_other iother other hother
        obtain ⟨hother, rfl⟩ := range_get hother
        refine ⟨[_, _, _, _, _, _, _, _, _, _, _, _, _, _, _, _, _], rfl, fun _ _ _ _ _ => ?_⟩
        refine w_ix ?_
        refine w_lst ?_
        refine wa_cons ?_
        refine w_tup ?_
        refine wa_cons ?_
        refine w_non ?_
        refine wa_cons ?_
        refine w_non ?_
        refine wa_nil ?_
        refine ⟨by simp, ?_⟩
        refine wa_cons ?_
        refine w_name 15 rfl (.inr (.inl rfl)) rfl ?_
        refine wa_nil ?_
        refine ⟨by simp, ?_⟩
        refine w_callTy (T := "int") T.b_int ?_
        refine wa_cons ?_
        refine w_cmp ?_
        refine w_name 16 rfl (.inl rfl) rfl ?_
        refine w_name 3 rfl (.inr (.inl rfl)) rfl ?_
        walk_at "Eq"
        refine wa_nil ?_
        walk_at "c_int"
        rw [if_eqf]
        refine ix_lstD (if other = r4 then 1 else 0) rfl (d := cellD (Y.cell r4 k other)) (by unfold Ring.cell; exact if e : other = r4 then (by rw [if_pos e, if_pos e]; rfl) else (by rw [if_neg e, if_neg e]; rfl)) ?_
        exact ⟨rfl, rfl⟩
      intro p_c
      refine ⟨_, _, _, rfl, rfl, ?_⟩
      refine wa_nil ?_
      walk_at "c_tuple"
      refine w_name 12 rfl (.inl rfl) rfl ?_
      refine w_ix ?_
      refine w_name 11 rfl (.inl rfl) rfl ?_
      refine w_name 8 rfl (.inl rfl) rfl ?_
      refine ix_lstD k rfl (natsL_get (by omega)) ?_
      have hxl : Y.r.getD k 0 < many := by
        have hm2 := getD_mem (show k < Y.r.length by omega)
        match ie, hY with
        | 0, hY => cases hY; exact List.mem_range.mp (pmR.mem_iff.mp (List.mem_append_left _ hm2))
        | 1, hY => cases hY; exact List.mem_range.mp (pmR.mem_iff.mp (List.mem_append_right _ hm2))
        | (n + 2), hY => simp at hY
      refine ⟨_, 0, _, Y.r.getD k 0, rfl, rfl, rfl, (by rw [List.length_map, hlay2.len]; exact hxl), ?_⟩
      simp only [List.set_cons_zero]
      have eset : (rms2.map omD).set (Y.r.getD k 0) (.tup ((List.range asks).map fun o => cellD (Y.cell r4 k o))) = (rms2.set (Y.r.getD k 0) (some (roomOf Y r4 asks k))).map omD := by
        rw [List.map_set]
        congr 1
        show D.tup _ = D.tup ((List.map _ _).map cellD)
        rw [List.map_map]
        rfl
      rw [eset]
      refine w_nil ?_
      exact ⟨[_, _], rfl, ⟨rms2.set (Y.r.getD k 0) (some (roomOf Y r4 asks k)), _, _, laid_set hlay2 pmR hY (by omega), rfl, rfl⟩⟩
    rintro vs μ' ⟨rms2, w8, w15, hlay2, rfl, rfl⟩
    refine wSs_rho (ρ' := [_, _, _, _, _, _, _, _, _, _, _, _, _, _, _, _, _]) rfl ?_
    refine w_nil ?_
    exact ⟨[_, _, _, _, _], rfl, ⟨rms2, _, _, _, _, _, laid_next hlay2 hY (Nat.le_refl _), rfl, rfl⟩⟩
  rintro vs μ' ⟨rms, w11, w13, w14, w8, w15, hlay, rfl, rfl⟩
  refine wSs_rho (ρ' := [_, _, _, _, _, _, _, _, _, _, _, _, _, _, _, _, _]) rfl ?_
  have hlay : Laid [R, S] r4 asks many rms 2 0 := hlay
  -- return ((_law_asks, tuple(_law_rooms)), _law_ask, _law_rings_here, _law_spots)
  refine w_cons (w_ret (w_dr ?_))
  refine w_tup ?_
  refine wa_cons ?_
  refine w_tup ?_
  refine wa_cons ?_
  refine w_name 2 rfl (.inl rfl) rfl ?_
  refine wa_cons ?_
  refine w_callTy (T := "tuple") T.b_tuple ?_
  refine wa_cons ?_
  refine w_name 12 rfl (.inl rfl) rfl ?_
  refine wa_nil ?_
  walk_at "c_tuple"
  refine wa_nil ?_
  refine ⟨by simp, ?_⟩
  refine wa_cons ?_
  refine w_name 3 rfl (.inr (.inl rfl)) rfl ?_
  refine wa_cons ?_
  refine w_name 9 rfl (.inl rfl) rfl ?_
  refine wa_cons ?_
  refine w_name 10 rfl (.inl rfl) rfl ?_
  refine wa_nil ?_
  refine ⟨by simp, ?_⟩
  rw [laid_machD hlay pmR]
  subst hR
  subst hS
  exact ⟨_, List.sublist_cons_self _ _, kq (machOf asks rms) r4 ⟨r, s1, r1⟩ ⟨s, s2, h2⟩ c2 _ (laid_rings hlay pmR (by omega) (by show 0 < r.length; omega) (by show 0 < s.length; omega) hne (Nat.le_trans (Nat.mul_le_mul (show r.length ≤ 100 by omega) (show s.length ≤ 100 by omega)) (by decide))) (laid_ok hlay pmR (by omega) (by omega) (by show r1 < 8; omega) h28) (by show r.length + s.length = (rms.map _).length; rw [List.length_map, hlay.len]; omega) (by omega) rfl⟩
end
end L09

namespace L09
open PySem PySem.Spec L2 Oc
open Evl (Ex)
local macro_rules | `(tactic| walk_at "s") => `(tactic| first | assumption | omega | decide | (simp only [] at *; omega))
local macro_rules | `(tactic| walk_at "Add") => `(tactic| first | refine o_addN ?_ | refine o_add ?_ | refine o_addS (by walk_at "s") ?_ | refine o_addT (by walk_at "s") ?_ | refine o_addL (by walk_at "s") ?_)
local macro_rules | `(tactic| walk_at "Sub") => `(tactic| refine o_sub ?_)
local macro_rules | `(tactic| walk_at "Mult") => `(tactic| refine o_mul (by walk_at "s") ?_)
local macro_rules | `(tactic| walk_at "Mod") => `(tactic| first | refine o_modN (by walk_at "s") ?_ | refine o_mod (by walk_at "s") ?_)
local macro_rules | `(tactic| walk_at "FloorDiv") => `(tactic| first | refine o_divN (by walk_at "s") ?_ | refine o_div (by walk_at "s") ?_)
local macro_rules | `(tactic| walk_at "Pow") => `(tactic| refine o_pow (by walk_at "s") ?_)
local macro_rules | `(tactic| walk_at "LShift") => `(tactic| refine o_shl (by walk_at "s") ?_)
local macro_rules | `(tactic| walk_at "RShift") => `(tactic| refine o_shr (by walk_at "s") ?_)
local macro_rules | `(tactic| walk_at "BitAnd") => `(tactic| refine o_band ?_)
local macro_rules | `(tactic| walk_at "BitXor") => `(tactic| refine o_bxor ?_)
local macro_rules | `(tactic| walk_at "BitOr") => `(tactic| refine o_bor ?_)
local macro_rules | `(tactic| walk_at "Lt") => `(tactic| refine o_lt ?_)
local macro_rules | `(tactic| walk_at "LtE") => `(tactic| refine o_le ?_)
local macro_rules | `(tactic| walk_at "Gt") => `(tactic| refine o_gt ?_)
local macro_rules | `(tactic| walk_at "GtE") => `(tactic| refine o_ge ?_)
local macro_rules | `(tactic| walk_at "Eq") => `(tactic| refine o_eq (by rfl) ?_)
local macro_rules | `(tactic| walk_at "NotEq") => `(tactic| refine o_ne (by rfl) ?_)
local macro_rules | `(tactic| walk_at "Is") => `(tactic| refine o_isN ?_)
local macro_rules | `(tactic| walk_at "IsNot") => `(tactic| refine o_notN ?_)
local macro_rules | `(tactic| walk_at "In") => `(tactic| refine o_in (by first | exact .inl rfl | exact .inr (.inl rfl) | exact .inr (.inr rfl)) (by rfl) (by rfl) ?_)
local macro_rules | `(tactic| walk_at "NotIn") => `(tactic| refine o_nin (by first | exact .inl rfl | exact .inr (.inl rfl) | exact .inr (.inr rfl)) (by rfl) (by rfl) ?_)
local macro_rules | `(tactic| walk_at "c_abs") => `(tactic| refine c_abs ?_)
local macro_rules | `(tactic| walk_at "c_len") => `(tactic| first | refine c_lenL ?_ | refine c_lenC ?_ | refine c_lenT ?_ | refine c_lenS (by walk_at "s") ?_ | refine c_lenP 0 (by first | assumption | rfl) ?_)
local macro_rules | `(tactic| walk_at "c_str") => `(tactic| refine c_str (by walk_at "s") ?_)
local macro_rules | `(tactic| walk_at "c_isinstance") => `(tactic| refine c_isi rfl (by rfl) ?_)
local macro_rules | `(tactic| walk_at "sl") => `(tactic| first | refine sd_tup ?_ | refine sd_lst ?_)
local macro_rules | `(tactic| walk_at "c_tuple") => `(tactic| first | refine c_tupL ?_ | refine c_tupP 0 (by first | assumption | rfl) ?_ | refine c_tupT ?_)
local macro_rules | `(tactic| walk_at "c_int") => `(tactic| first | refine c_intB ?_)
local macro_rules | `(tactic| walk_at "USub") => `(tactic| refine u_neg ?_)
local macro_rules | `(tactic| walk_at "pen") => `(tactic| first | assumption | exact get_set (by assumption) | exact get_set (get_set (by assumption)) | exact get_here | (apply get_cons; walk_at "pen") | (apply get_app; walk_at "pen"))
local macro_rules | `(tactic| walk_at "mu") => `(tactic| simp only [List.set_cons_succ, List.set_set, List.set_cons_zero])
/-! ### k09: the pairs of two rings told -/
def S_ringsR : FS := fun ds μ Φ => ∃ (ns : List Int) (n : Nat) (q : Addr) (i : Nat), ds = [.ptr q] ∧ μ[i]? = some (q, penO ns n) ∧ n ≤ 400000 ∧ ∀ (n' : Nat) μ', n' ≤ n + 200 → μ' = μ.set i (q, penO ns n') → Φ (.bl true) μ'
def dueK (R S : Ring) (i k : Nat) : List Pair := (List.range k).flatMap fun j => if (stepsN R S i j).isSome then [(min (R.r.getD i 0) (S.r.getD j 0), max (R.r.getD i 0) (S.r.getD j 0))] else []
def dueI (R S : Ring) (n : Nat) : List Pair := (List.range n).flatMap fun i => dueK R S i S.r.length
theorem due_is (R S : Ring) : dueI R S R.r.length = dueL R S := rfl
theorem dueI_next (R S : Ring) (n : Nat) : dueI R S (n + 1) = dueI R S n ++ dueK R S n S.r.length := by
  unfold dueI
  rw [List.range_succ, List.flatMap_append]
  simp
theorem dueK_next (R S : Ring) (i k : Nat) : dueK R S i (k + 1) = dueK R S i k ++ (if (stepsN R S i k).isSome then [(min (R.r.getD i 0) (S.r.getD k 0), max (R.r.getD i 0) (S.r.getD k 0))] else []) := by
  unfold dueK
  rw [List.range_succ, List.flatMap_append]
  simp
def plK (i k : Nat) : List Pair := (List.range k).map fun j => (i, j)
def plI (n l : Nat) : List Pair := (List.range n).flatMap fun i => plK i l
theorem plI_next (n l : Nat) : plI (n + 1) l = plI n l ++ plK n l := by
  unfold plI
  rw [List.range_succ, List.flatMap_append]
  simp
theorem plK_next (i k : Nat) : plK i (k + 1) = plK i k ++ [(i, k)] := by
  unfold plK
  rw [List.range_succ, List.map_append]
  rfl
theorem mem_plI {n l : Nat} {p : Pair} (h : p ∈ plI n l) : p.1 < n ∧ p.2 < l := by
  unfold plI plK at h
  obtain ⟨i, hi, h⟩ := List.mem_flatMap.mp h
  obtain ⟨j, hj, rfl⟩ := List.mem_map.mp h
  exact ⟨List.mem_range.mp hi, List.mem_range.mp hj⟩
theorem plK_len (i k : Nat) : (plK i k).length = k := by unfold plK; rw [List.length_map, List.length_range]
theorem plI_len : ∀ (n l : Nat), (plI n l).length = n * l
  | 0, l => by unfold plI; simp
  | n + 1, l => by rw [plI_next, List.length_append, plI_len n l, plK_len, Nat.succ_mul]
theorem dueK_len : ∀ (R S : Ring) (i k : Nat), (dueK R S i k).length ≤ k
  | R, S, i, 0 => by unfold dueK; simp
  | R, S, i, k + 1 => by
    rw [dueK_next, List.length_append]
    have := dueK_len R S i k
    split <;> simp <;> omega
theorem dueI_len : ∀ (R S : Ring) (n : Nat), (dueI R S n).length ≤ n * S.r.length
  | R, S, 0 => by unfold dueI; simp
  | R, S, n + 1 => by
    rw [dueI_next, List.length_append, Nat.succ_mul]
    have := dueI_len R S n
    have := dueK_len R S n S.r.length
    omega
def pairsP (L : List Pair) : PyData := .list (L.map fun p => .tuple [.int p.1, .int p.2])
theorem shws_pairs (μ : Mu) (L : List Pair) : Shws μ (L.map pairD) (L.map fun p => .tuple [.int p.1, .int p.2]) := Shws.map (fun p => .tup (.cons (.int _) (.cons (.int _) .nil))) L
theorem tm_pairs {m : Mach} {L : List Pair} (hN : m.rooms.length ≤ 100) (h : IsParted m L) : Tm (pairsP L) 100000 6 := by
  have hl := parted_len h
  have hN2 : m.rooms.length * m.rooms.length ≤ 100 * 100 := Nat.mul_le_mul hN hN
  have t : Tms (L.map fun p => PyData.tuple [.int p.1, .int p.2]) ((2 + 1) * L.length) 1 := Tms.map fun p hp => by
    obtain ⟨⟨h1, h2⟩, _⟩ := (h.iff p).mp hp
    exact (Tm.tup (.cons (Tm.int (by omega)) (.cons (Tm.int (by omega)) .nil))).mono (by decide) (by decide)
  exact (Tm.lst t).mono (by omega) (by omega)
theorem st_som (o : Option Nat) : (!D.isN (stD o)) = o.isSome := by cases o <;> rfl
theorem st_non (o : Option Nat) : D.isN (stD o) = o.isNone := by cases o <;> rfl
theorem ro_som (o : Option (List Nat)) : (!D.isN (roD o)) = o.isSome := by cases o <;> rfl
theorem rep_flat (n a : Nat) : (List.replicate ((n : Nat) : Int).toNat [D.int (a : Nat)]).flatten = (List.replicate n a).map fun a : Nat => D.int a := by
  rw [Int.toNat_natCast, List.flatten_replicate_singleton, List.map_replicate]
theorem last_nats {l : List Nat} (h : 0 < l.length) : (l.map fun a : Nat => D.int a) = (l.dropLast.map fun a : Nat => D.int a) ++ [D.int (l.getD (l.length - 1) 0 : Nat)] := by
  have hne : l ≠ [] := fun e => by subst e; cases h
  have e1 : l.getD (l.length - 1) 0 = l.getLast hne := by
    rw [List.getD_eq_getElem?_getD, List.getElem?_eq_getElem (by omega), List.getLast_eq_getElem]
    rfl
  rw [e1]
  have e2 := List.dropLast_concat_getLast hne
  have e3 : (l.dropLast ++ [l.getLast hne]).map (fun a : Nat => D.int a) = l.map fun a : Nat => D.int a := by rw [e2]
  rw [← e3, List.map_append]
  rfl
section
variable {P : Program} {w : World} {K : PySem.W.Frag} {mg : Str → Option Value} {base : Heap}
theorem ok_ringsR (B : Src K mg "_law_rings_right" s__law_rings_right ["_law_pen"]) (T : Tx mg) (G__law_rings : KnG P w K mg base 2 "_law_rings" ["_law_pen"] S_rings) (G__law_steps : KnG P w K mg base 1 "_law_steps" ["_law_rings_here", "_law_spots", "_law_i", "_law_j"] S_steps) (G_parted : KnG P w K mg base 4 "parted" ["machine"] S_parted) (G__law_take : KnG P w K mg base 1 "_law_take" ["_law_pen", "_law_many"] S_draw) (G_parting : KnG P w K mg base 3 "parting" ["machine", "one", "other"] S_part) (G__law_said : KnG P w K mg base 3 "_law_said" ["_law_machine_here", "_law_one", "_law_other", "_law_row"] S_said) : KnG P w K mg base 5 "_law_rings_right" ["_law_pen"] S_ringsR := by
  refine kn_ofG B sc__law_rings_right (fun ds μ Φ h => by obtain ⟨_, _, _, _, rfl, _⟩ := h; rfl) fun f cdv A outer s H E grd hr ds μ Φ h => ?_
  obtain ⟨ns, n, q, ip, rfl, hpen, hn, kq⟩ := h
  refine wSs_rho (ρ' := [_, _, _, _, _, _, _, _, _, _, _, _]) rfl ?_
  -- _law_machine_here, _law_ask, _law_rings_here, _law_spots = _law_rings(_law_pen)
  refine w_cons (w_asg ?_)
  refine w_callG G__law_rings hr ?_
  refine wa_cons ?_
  refine w_name 0 rfl (.inl rfl) rfl ?_
  refine wa_nil ?_
  refine ⟨ns, n, q, ip, rfl, hpen, by omega, fun m a R S n1 μ' hRi hm hlen hn1 e1 => ?_⟩
  subst e1
  first | refine wg_tup rfl rfl ?_ | refine wg_lst rfl rfl ?_
  refine wgs_cons ?_
  refine wg_name 1 sc__law_rings_right.nd rfl (.inl rfl) (.inl rfl) ?_
  refine wgs_cons ?_
  refine wg_name 2 sc__law_rings_right.nd rfl (.inl rfl) (.inl rfl) ?_
  refine wgs_cons ?_
  refine wg_name 3 sc__law_rings_right.nd rfl (.inl rfl) (.inl rfl) ?_
  refine wgs_cons ?_
  refine wg_name 4 sc__law_rings_right.nd rfl (.inl rfl) (.inl rfl) ?_
  refine wgs_nil ?_
  have h24 := hm.rm
  have hRl := hRi.hR.ne
  have hSl := hRi.hS.ne
  have hpos : 0 < R.r.length * S.r.length := Nat.mul_pos hRl hSl
  have hprod : R.r.length * S.r.length ≤ 24 * 24 := Nat.mul_le_mul (by omega) (by omega)
  -- _law_due = []
  refine w_cons (w_set 5 sc__law_rings_right.nd rfl (.inl rfl) (.inl rfl) ?_)
  refine w_lstM ?_
  refine wa_nil ?_
  refine ⟨by simp, fun pd => ?_⟩
  -- _law_places = []
  refine w_cons (w_set 6 sc__law_rings_right.nd rfl (.inl rfl) (.inl rfl) ?_)
  refine w_lstM ?_
  refine wa_nil ?_
  refine ⟨by simp, fun pp => ?_⟩
  -- for _law_i in range(len(_law_rings_here[0])):
  refine w_cons (w_forV [7, 8] ?_ PassesOwn.never rfl)
  refine wi_rngN T.b_range ?_
  refine w_callB (id := "len") T.b_len ?_
  refine wa_cons ?_
  refine w_ix ?_
  refine w_name 3 rfl (.inl rfl) rfl ?_
  refine w_int ?_
  first | refine ix_tupD 0 rfl rfl ?_ | refine ix_lstD 0 rfl rfl ?_ | refine ix_tupD 0 rfl (by assumption) ?_ | refine ix_lstD 0 rfl (by assumption) ?_ | refine ix_ptrD 0 rfl 0 rfl rfl ?_ | refine ix_ptrD 1 rfl 0 rfl rfl ?_ | refine ix_ptrD 2 rfl 0 rfl rfl ?_
  refine wa_nil ?_
  refine c_lenL ?_
  rw [List.length_map]
  refine ⟨_, by rfl, by omega, ?_⟩
  refine ⟨_, fun i vs μ' => ∃  (w7 w8 : Option D), vs = [w7, w8] ∧ (pp, .lst ((plI i S.r.length).map pairD)) :: (pd, .lst ((dueI R S i).map pairD)) :: μ.set ip (q, penO ns n1) = μ', (by first | exact nats_len | exact nats2_len | exact enumD_len.trans (List.length_map _) | exact enumD_len | exact List.length_map _ | exact rfl | simp), ⟨_, _, rfl, rfl⟩, ?_, ?_⟩
  · rintro i x vs μ' hx ⟨w7, w8, rfl, rfl⟩
    refine wG_rho (ρ' := [_, _, _, _, _, _, _, _, _, _, _, _]) rfl ?_
    obtain ⟨hi, rfl⟩ := nats_get hx
    have hiR := hi
    have hpl := plI_len i S.r.length
    have hdl := dueI_len R S i
    have hmul : i * S.r.length ≤ 24 * 24 := Nat.mul_le_mul (by omega) (by omega)
    generalize hI : i = i0 at *
    refine wg_name 7 sc__law_rings_right.nd rfl (.inl rfl) (.inl rfl) ?_
    -- for _law_j in range(len(_law_rings_here[1])):
    refine w_cons (w_forV [8] ?_ PassesOwn.never rfl)
    refine wi_rngN T.b_range ?_
    refine w_callB (id := "len") T.b_len ?_
    refine wa_cons ?_
    refine w_ix ?_
    refine w_name 3 rfl (.inl rfl) rfl ?_
    refine w_int ?_
    first | refine ix_tupD 1 rfl rfl ?_ | refine ix_lstD 1 rfl rfl ?_ | refine ix_tupD 1 rfl (by assumption) ?_ | refine ix_lstD 1 rfl (by assumption) ?_ | refine ix_ptrD 0 rfl 1 rfl rfl ?_ | refine ix_ptrD 1 rfl 1 rfl rfl ?_ | refine ix_ptrD 2 rfl 1 rfl rfl ?_
    refine wa_nil ?_
    refine c_lenL ?_
    rw [List.length_map]
    refine ⟨_, by rfl, by omega, ?_⟩
    refine ⟨_, fun i vs μ' => ∃  (w8 : Option D), vs = [w8] ∧ (pp, .lst ((plI i0 S.r.length ++ plK i0 i).map pairD)) :: (pd, .lst ((dueI R S i0 ++ dueK R S i0 i).map pairD)) :: μ.set ip (q, penO ns n1) = μ', (by first | exact nats_len | exact nats2_len | exact enumD_len.trans (List.length_map _) | exact enumD_len | exact List.length_map _ | exact rfl | simp), ⟨_, rfl, (by unfold plK dueK; simp)⟩, ?_, ?_⟩
    · rintro j x vs μ' hx ⟨w8, rfl, rfl⟩
      refine wG_rho (ρ' := [_, _, _, _, _, _, _, _, _, _, _, _]) rfl ?_
      obtain ⟨hj, rfl⟩ := nats_get hx
      have hdk := dueK_len R S i0 j
      refine wg_name 8 sc__law_rings_right.nd rfl (.inl rfl) (.inl rfl) ?_
      -- if _law_steps(_law_rings_here, _law_spots, _law_i, _law_j) is not None:
      refine w_cutV [] (fun vs μ' => vs = [] ∧ (pp, .lst ((plI i0 S.r.length ++ plK i0 j).map pairD)) :: (pd, .lst ((dueI R S i0 ++ dueK R S i0 (j + 1)).map pairD)) :: μ.set ip (q, penO ns n1) = μ') (w_if ?_) ?_
      · refine wt_cmp ?_
        refine w_callG G__law_steps hr ?_
        refine wa_cons ?_
        refine w_name 3 rfl (.inl rfl) rfl ?_
        refine wa_cons ?_
        refine w_name 4 rfl (.inl rfl) rfl ?_
        refine wa_cons ?_
        refine w_name 7 rfl (.inl rfl) rfl ?_
        refine wa_cons ?_
        refine w_name 8 rfl (.inl rfl) rfl ?_
        refine wa_nil ?_
        refine ⟨R, S, i0, j, rfl, hRl, hSl, by omega, by omega, ?_⟩
        refine w_non ?_
        refine o_notN ?_
        rw [st_som]
        refine ⟨_, rfl, ?_⟩
        refine ⟨fun hb => ?_, fun hb => ?_⟩
        · -- _law_due.append((min(_law_rings_here[0][_law_i], _law_rings_here[1][_law_j]), max(_law_rings_here[0][_law_i], _law_rings_here[1][_law_j])))
          refine w_cons (w_expr ?_)
          refine w_append ?_
          refine w_name 5 rfl (.inl rfl) rfl ?_
          first | refine ⟨.inl ⟨rfl, 0, _, rfl⟩, ?_⟩ | refine ⟨.inl ⟨rfl, 1, _, rfl⟩, ?_⟩ | refine ⟨.inl ⟨rfl, 2, _, rfl⟩, ?_⟩ | refine ⟨.inl ⟨rfl, 3, _, rfl⟩, ?_⟩ | refine ⟨rfl, ?_⟩
          refine wa_cons ?_
          refine w_tup ?_
          refine wa_cons ?_
          refine w_callB (id := "min") T.b_min ?_
          refine wa_cons ?_
          refine w_ix ?_
          refine w_ix ?_
          refine w_name 3 rfl (.inl rfl) rfl ?_
          refine w_int ?_
          first | refine ix_tupD 0 rfl rfl ?_ | refine ix_lstD 0 rfl rfl ?_ | refine ix_tupD 0 rfl (by assumption) ?_ | refine ix_lstD 0 rfl (by assumption) ?_ | refine ix_ptrD 0 rfl 0 rfl rfl ?_ | refine ix_ptrD 1 rfl 0 rfl rfl ?_ | refine ix_ptrD 2 rfl 0 rfl rfl ?_
          refine w_name 7 rfl (.inl rfl) rfl ?_
          refine ix_lstD i0 rfl (natsL_get (by omega)) ?_
          refine wa_cons ?_
          refine w_ix ?_
          refine w_ix ?_
          refine w_name 3 rfl (.inl rfl) rfl ?_
          refine w_int ?_
          first | refine ix_tupD 1 rfl rfl ?_ | refine ix_lstD 1 rfl rfl ?_ | refine ix_tupD 1 rfl (by assumption) ?_ | refine ix_lstD 1 rfl (by assumption) ?_ | refine ix_ptrD 0 rfl 1 rfl rfl ?_ | refine ix_ptrD 1 rfl 1 rfl rfl ?_ | refine ix_ptrD 2 rfl 1 rfl rfl ?_
          refine w_name 8 rfl (.inl rfl) rfl ?_
          refine ix_lstD j rfl (natsL_get (by omega)) ?_
          refine wa_nil ?_
          refine c_min2N ?_
          refine wa_cons ?_
          refine w_callB (id := "max") T.b_max ?_
          refine wa_cons ?_
          refine w_ix ?_
          refine w_ix ?_
          refine w_name 3 rfl (.inl rfl) rfl ?_
          refine w_int ?_
          first | refine ix_tupD 0 rfl rfl ?_ | refine ix_lstD 0 rfl rfl ?_ | refine ix_tupD 0 rfl (by assumption) ?_ | refine ix_lstD 0 rfl (by assumption) ?_ | refine ix_ptrD 0 rfl 0 rfl rfl ?_ | refine ix_ptrD 1 rfl 0 rfl rfl ?_ | refine ix_ptrD 2 rfl 0 rfl rfl ?_
          refine w_name 7 rfl (.inl rfl) rfl ?_
          refine ix_lstD i0 rfl (natsL_get (by omega)) ?_
          refine wa_cons ?_
          refine w_ix ?_
          refine w_ix ?_
          refine w_name 3 rfl (.inl rfl) rfl ?_
          refine w_int ?_
          first | refine ix_tupD 1 rfl rfl ?_ | refine ix_lstD 1 rfl rfl ?_ | refine ix_tupD 1 rfl (by assumption) ?_ | refine ix_lstD 1 rfl (by assumption) ?_ | refine ix_ptrD 0 rfl 1 rfl rfl ?_ | refine ix_ptrD 1 rfl 1 rfl rfl ?_ | refine ix_ptrD 2 rfl 1 rfl rfl ?_
          refine w_name 8 rfl (.inl rfl) rfl ?_
          refine ix_lstD j rfl (natsL_get (by omega)) ?_
          refine wa_nil ?_
          refine c_max2N ?_
          refine wa_nil ?_
          refine ⟨by simp, ?_⟩
          refine wa_nil ?_
          refine m_append 1 rfl (by rw [List.length_map, List.length_append]; omega) ?_
          refine w_nil ?_
          exact ⟨[], rfl, ⟨rfl, (by rw [dueK_next, if_pos hb, ← List.append_assoc, List.map_append (l₂ := [_])]; rfl)⟩⟩
        · refine w_nil ?_
          exact ⟨[], rfl, ⟨rfl, (by rw [dueK_next, if_neg (by rw [hb]; exact Bool.false_ne_true), List.append_nil])⟩⟩
      rintro vs μ' ⟨rfl, rfl⟩
      refine wSs_rho (ρ' := [_, _, _, _, _, _, _, _, _, _, _, _]) rfl ?_
      -- _law_places.append((_law_i, _law_j))
      refine w_cons (w_expr ?_)
      refine w_append ?_
      refine w_name 6 rfl (.inl rfl) rfl ?_
      first | refine ⟨.inl ⟨rfl, 0, _, rfl⟩, ?_⟩ | refine ⟨.inl ⟨rfl, 1, _, rfl⟩, ?_⟩ | refine ⟨.inl ⟨rfl, 2, _, rfl⟩, ?_⟩ | refine ⟨.inl ⟨rfl, 3, _, rfl⟩, ?_⟩ | refine ⟨rfl, ?_⟩
      refine wa_cons ?_
      refine w_tup ?_
      refine wa_cons ?_
      refine w_name 7 rfl (.inl rfl) rfl ?_
      refine wa_cons ?_
      refine w_name 8 rfl (.inl rfl) rfl ?_
      refine wa_nil ?_
      refine ⟨by simp, ?_⟩
      refine wa_nil ?_
      refine m_append 0 rfl (by rw [List.length_map, List.length_append, plK_len]; omega) ?_
      refine w_nil ?_
      exact ⟨[_], rfl, ⟨_, rfl, (by rw [plK_next, ← List.append_assoc, List.map_append (l₂ := [_])]; rfl)⟩⟩
    rintro vs μ' ⟨w8, rfl, rfl⟩
    refine wSs_rho (ρ' := [_, _, _, _, _, _, _, _, _, _, _, _]) rfl ?_
    refine w_nil ?_
    exact ⟨[_, _], rfl, ⟨_, _, rfl, (by rw [plI_next, dueI_next])⟩⟩
  rintro vs μ' ⟨w7, w8, rfl, rfl⟩
  refine wSs_rho (ρ' := [_, _, _, _, _, _, _, _, _, _, _, _]) rfl ?_
  refine wSs_fz (i := 1) (j := 5) rfl rfl ?_
  refine wSs_fz (i := 0) (j := 6) rfl rfl ?_
  -- if repr(parted(_law_machine_here)) != repr(sorted(_law_due)):
  refine w_cons (w_if ?_)
  refine wt_cmp ?_
  refine w_callB (id := "repr") T.b_repr ?_
  refine wa_cons ?_
  refine w_callG G_parted hr ?_
  refine wa_cons ?_
  refine w_name 1 rfl (.inl rfl) rfl ?_
  refine wa_nil ?_
  refine ⟨m, 24, rfl, hm, by decide, fun L q2 hL => ?_⟩
  refine wa_nil ?_
  refine c_reprT (pairsP L) hr (.ptr (i := 0) rfl (shws_pairs _ _)) (tm_pairs (by omega) hL) ?_
  refine w_callB (id := "repr") T.b_repr ?_
  refine wa_cons ?_
  refine w_callB (id := "sorted") T.b_sorted ?_
  refine wa_cons ?_
  refine w_name 5 rfl (.inl rfl) rfl ?_
  refine wa_nil ?_
  refine c_sortedP rfl fun ps hps hpso => ?_
  obtain rfl := parted_uniq hL (due_parted hRi hps hpso)
  refine wa_nil ?_
  refine c_reprT (pairsP L) hr (.lst (shws_pairs _ _)) (tm_pairs (by omega) hL) ?_
  refine o_ne rfl ?_
  refine ⟨_, rfl, ?_⟩
  refine ⟨fun hb_ => ?_, fun hb_ => wSs_sub (List.sublist_cons_self _ _) ?_⟩
  · -- return False
    refine w_cons (w_ret ?_)
    refine w_bl ?_
    simp [D.eqf] at hb_
  refine w_nil ?_
  -- for _law_k in range(5):
  refine w_cons (w_forV [9, 7, 8, 10, 11] ?_ PassesOwn.never rfl)
  refine wi_rngN T.b_range ?_
  refine w_int ?_
  refine ⟨5, by rfl, by omega, ?_⟩
  refine ⟨_, fun i vs μ' => ∃ (c : Nat) (w9 w7 w8 w10 w11 : Option D), (c ≤ n1 + i) ∧ vs = [w9, w7, w8, w10, w11] ∧ μ.set ip (q, penO ns c) = μ', (by first | exact nats_len | exact nats2_len | exact enumD_len.trans (List.length_map _) | exact enumD_len | exact List.length_map _ | exact rfl | simp), ⟨n1, _, _, _, _, _, (by omega), rfl, rfl⟩, ?_, ?_⟩
  · rintro k x vs μ' hx ⟨c, w9, w7, w8, w10, w11, hc, rfl, rfl⟩
    refine wG_rho (ρ' := [_, _, _, _, _, _, _, _, _, _, _, _]) rfl ?_
    obtain ⟨hk, rfl⟩ := nats_get hx
    refine wg_name 9 sc__law_rings_right.nd rfl (.inl rfl) (.inl rfl) ?_
    -- _law_i, _law_j = _law_places[_law_take(_law_pen, len(_law_places))]
    refine w_cons (w_asg ?_)
    refine w_ix ?_
    refine w_name 6 rfl (.inl rfl) rfl ?_
    refine w_callG G__law_take hr ?_
    refine wa_cons ?_
    refine w_name 0 rfl (.inl rfl) rfl ?_
    refine wa_cons ?_
    refine w_callB (id := "len") T.b_len ?_
    refine wa_cons ?_
    refine w_name 6 rfl (.inl rfl) rfl ?_
    refine wa_nil ?_
    refine c_lenL ?_
    rw [List.length_map, plI_len]
    refine wa_nil ?_
    refine ⟨_, _, _, _, _, rfl, by walk_at "pen", by omega, by omega, fun r1 μ1 hr1 e1 => ?_⟩
    try simp only [List.set_cons_succ, List.set_set, List.set_cons_zero] at e1
    subst e1
    obtain ⟨⟨i1, j1⟩, hij⟩ : ∃ p, (plI R.r.length S.r.length)[r1]? = some p := ⟨_, List.getElem?_eq_getElem (by rw [plI_len]; omega)⟩
    obtain ⟨hi1, hj1⟩ := mem_plI (List.mem_of_getElem? hij)
    have hi1 : i1 < R.r.length := hi1
    have hj1 : j1 < S.r.length := hj1
    refine ix_lstD r1 rfl (map_at hij) ?_
    first | refine wg_tup rfl rfl ?_ | refine wg_lst rfl rfl ?_
    refine wgs_cons ?_
    refine wg_name 7 sc__law_rings_right.nd rfl (.inl rfl) (.inl rfl) ?_
    refine wgs_cons ?_
    refine wg_name 8 sc__law_rings_right.nd rfl (.inl rfl) (.inl rfl) ?_
    refine wgs_nil ?_
    -- _law_long = _law_steps(_law_rings_here, _law_spots, _law_i, _law_j)
    refine w_cons (w_set 10 sc__law_rings_right.nd rfl (.inl rfl) (.inl rfl) ?_)
    refine w_callG G__law_steps hr ?_
    refine wa_cons ?_
    refine w_name 3 rfl (.inl rfl) rfl ?_
    refine wa_cons ?_
    refine w_name 4 rfl (.inl rfl) rfl ?_
    refine wa_cons ?_
    refine w_name 7 rfl (.inl rfl) rfl ?_
    refine wa_cons ?_
    refine w_name 8 rfl (.inl rfl) rfl ?_
    refine wa_nil ?_
    refine ⟨R, S, i1, j1, rfl, hRl, hSl, by omega, by omega, ?_⟩
    -- _law_row = parting(_law_machine_here, _law_rings_here[0][_law_i], _law_rings_here[1][_law_j])
    refine w_cons (w_set 11 sc__law_rings_right.nd rfl (.inl rfl) (.inl rfl) ?_)
    refine w_callG G_parting hr ?_
    refine wa_cons ?_
    refine w_name 1 rfl (.inl rfl) rfl ?_
    refine wa_cons ?_
    refine w_ix ?_
    refine w_ix ?_
    refine w_name 3 rfl (.inl rfl) rfl ?_
    refine w_int ?_
    first | refine ix_tupD 0 rfl rfl ?_ | refine ix_lstD 0 rfl rfl ?_ | refine ix_tupD 0 rfl (by assumption) ?_ | refine ix_lstD 0 rfl (by assumption) ?_ | refine ix_ptrD 0 rfl 0 rfl rfl ?_ | refine ix_ptrD 1 rfl 0 rfl rfl ?_ | refine ix_ptrD 2 rfl 0 rfl rfl ?_
    refine w_name 7 rfl (.inl rfl) rfl ?_
    refine ix_lstD i1 rfl (natsL_get hi1) ?_
    refine wa_cons ?_
    refine w_ix ?_
    refine w_ix ?_
    refine w_name 3 rfl (.inl rfl) rfl ?_
    refine w_int ?_
    first | refine ix_tupD 1 rfl rfl ?_ | refine ix_lstD 1 rfl rfl ?_ | refine ix_tupD 1 rfl (by assumption) ?_ | refine ix_lstD 1 rfl (by assumption) ?_ | refine ix_ptrD 0 rfl 1 rfl rfl ?_ | refine ix_ptrD 1 rfl 1 rfl rfl ?_ | refine ix_ptrD 2 rfl 1 rfl rfl ?_
    refine w_name 8 rfl (.inl rfl) rfl ?_
    refine ix_lstD j1 rfl (natsL_get hj1) ?_
    refine wa_nil ?_
    refine ⟨m, 24, _, _, rfl, hm, by decide, ⟨ring_in hRi.hR hi1, ring_in hRi.hS hj1⟩, fun res hres => ?_⟩
    obtain rfl := res_uniq hres (ring_res hRi.hR hRi.hS hRi.ha hRi.sz hi1 hj1)
    have hrr : ringRes R S a i1 j1 = (stepsN R S i1 j1).map fun n => List.replicate n a := by unfold ringRes; rw [if_neg hRi.hh]
    rw [hrr] at hres ⊢
    -- if _law_long is None and _law_row is not None:
    refine w_cons (w_if ?_)
    refine wt_b (false) ?_ ?_
    · refine wt_w ?_
      refine ww_and ?_
      refine wt_cmp ?_
      refine w_name 10 rfl (.inl rfl) rfl ?_
      refine w_non ?_
      refine o_isN ?_
      rw [st_non]
      refine ⟨_, rfl, ?_⟩
      refine ⟨fun hb0 => ?_, fun hb0 => ⟨(by simp_all), rfl⟩⟩
      refine ww_and1 ?_
      refine wt_cmp ?_
      refine w_name 11 rfl (.inl rfl) rfl ?_
      refine w_non ?_
      refine o_notN ?_
      rw [ro_som]
      refine ⟨_, rfl, ?_⟩
      exact ⟨(by have e := Option.isNone_iff_eq_none.mp hb0; rw [e]; rfl), rfl⟩
    refine ⟨fun hb => ?_, fun hb => ?_⟩
    · -- return False
      refine w_cons (w_ret ?_)
      refine w_bl ?_
      cases hb
    refine w_nil ?_
    -- if _law_long is not None and _law_row != (_law_ask,) * _law_long:
    refine w_cons (w_if ?_)
    refine wt_b (false) ?_ ?_
    · refine wt_w ?_
      refine ww_and ?_
      refine wt_cmp ?_
      refine w_name 10 rfl (.inl rfl) rfl ?_
      refine w_non ?_
      refine o_notN ?_
      rw [st_som]
      refine ⟨_, rfl, ?_⟩
      refine ⟨fun hb0 => ?_, fun hb0 => ⟨(by simp_all), rfl⟩⟩
      refine ww_and1 ?_
      refine wt_cmp ?_
      refine w_name 11 rfl (.inl rfl) rfl ?_
      refine w_bin ?_
      refine w_tup ?_
      refine wa_cons ?_
      refine w_name 2 rfl (.inl rfl) rfl ?_
      refine wa_nil ?_
      refine ⟨by simp, ?_⟩
      refine w_name 10 rfl (.inl rfl) rfl ?_
      obtain ⟨nn, hnn⟩ := Option.isSome_iff_exists.mp hb0
      obtain ⟨g, hg, hg2, _⟩ := steps_some hnn
      rw [hnn] at hres ⊢
      refine o_repT (k := (nn : Nat)) ⟨by omega, by omega⟩ (by simp) (by show 1 ≤ 1000; decide) ?_
      rw [rep_flat]
      refine o_neS hr.units (ly_row (List.replicate nn a)) ?_
      refine ⟨_, rfl, ?_⟩
      exact ⟨(by simp_all), rfl⟩
    refine ⟨fun hb => ?_, fun hb => ?_⟩
    · -- return False
      refine w_cons (w_ret ?_)
      refine w_bl ?_
      cases hb
    refine w_nil ?_
    -- if _law_long is not None and (not _law_said(_law_machine_here, _law_rings_here[1][_law_j], _law_rings_here[0][_law_i], _law_row)):
    refine w_cons (w_if ?_)
    refine wt_b (false) ?_ ?_
    · refine wt_w ?_
      refine ww_and ?_
      refine wt_cmp ?_
      refine w_name 10 rfl (.inl rfl) rfl ?_
      refine w_non ?_
      refine o_notN ?_
      rw [st_som]
      refine ⟨_, rfl, ?_⟩
      refine ⟨fun hb0 => ?_, fun hb0 => ⟨(by simp_all), rfl⟩⟩
      refine ww_and1 ?_
      refine wt_not ?_
      refine wt_val ?_
      refine w_callG G__law_said hr ?_
      refine wa_cons ?_
      refine w_name 1 rfl (.inl rfl) rfl ?_
      refine wa_cons ?_
      refine w_ix ?_
      refine w_ix ?_
      refine w_name 3 rfl (.inl rfl) rfl ?_
      refine w_int ?_
      first | refine ix_tupD 1 rfl rfl ?_ | refine ix_lstD 1 rfl rfl ?_ | refine ix_tupD 1 rfl (by assumption) ?_ | refine ix_lstD 1 rfl (by assumption) ?_ | refine ix_ptrD 0 rfl 1 rfl rfl ?_ | refine ix_ptrD 1 rfl 1 rfl rfl ?_ | refine ix_ptrD 2 rfl 1 rfl rfl ?_
      refine w_name 8 rfl (.inl rfl) rfl ?_
      refine ix_lstD j1 rfl (natsL_get hj1) ?_
      refine wa_cons ?_
      refine w_ix ?_
      refine w_ix ?_
      refine w_name 3 rfl (.inl rfl) rfl ?_
      refine w_int ?_
      first | refine ix_tupD 0 rfl rfl ?_ | refine ix_lstD 0 rfl rfl ?_ | refine ix_tupD 0 rfl (by assumption) ?_ | refine ix_lstD 0 rfl (by assumption) ?_ | refine ix_ptrD 0 rfl 0 rfl rfl ?_ | refine ix_ptrD 1 rfl 0 rfl rfl ?_ | refine ix_ptrD 2 rfl 0 rfl rfl ?_
      refine w_name 7 rfl (.inl rfl) rfl ?_
      refine ix_lstD i1 rfl (natsL_get hi1) ?_
      refine wa_cons ?_
      refine w_name 11 rfl (.inl rfl) rfl ?_
      refine wa_nil ?_
      obtain ⟨nn, hnn⟩ := Option.isSome_iff_exists.mp hb0
      rw [hnn] at hres ⊢
      refine ⟨m, 24, _, _, List.replicate nn a, rfl, hm, by decide, ⟨ring_in hRi.hS hj1, ring_in hRi.hR hi1⟩, prt_sym hres.1.1, hres.2, ?_⟩
      refine ⟨_, rfl, ?_⟩
      exact ⟨(by simp_all), rfl⟩
    refine ⟨fun hb => ?_, fun hb => ?_⟩
    · -- return False
      refine w_cons (w_ret ?_)
      refine w_bl ?_
      cases hb
    refine w_nil ?_
    refine w_nil ?_
    exact ⟨[_, _, _, _, _], rfl, ⟨c + 1, _, _, _, _, _, (by omega), rfl, rfl⟩⟩
  rintro vs μ' ⟨c, w9, w7, w8, w10, w11, hc, rfl, rfl⟩
  refine wSs_rho (ρ' := [_, _, _, _, _, _, _, _, _, _, _, _]) rfl ?_
  -- return parting(_law_machine_here, _law_rings_here[1][0], _law_rings_here[1][-1]) is None
  refine w_cons (w_ret ?_)
  refine w_cmp ?_
  refine w_callG G_parting hr ?_
  refine wa_cons ?_
  refine w_name 1 rfl (.inl rfl) rfl ?_
  refine wa_cons ?_
  refine w_ix ?_
  refine w_ix ?_
  refine w_name 3 rfl (.inl rfl) rfl ?_
  refine w_int ?_
  first | refine ix_tupD 1 rfl rfl ?_ | refine ix_lstD 1 rfl rfl ?_ | refine ix_tupD 1 rfl (by assumption) ?_ | refine ix_lstD 1 rfl (by assumption) ?_ | refine ix_ptrD 0 rfl 1 rfl rfl ?_ | refine ix_ptrD 1 rfl 1 rfl rfl ?_ | refine ix_ptrD 2 rfl 1 rfl rfl ?_
  refine w_int ?_
  refine ix_lstD 0 rfl (natsL_get hSl) ?_
  refine wa_cons ?_
  refine w_ix ?_
  refine w_ix ?_
  refine w_name 3 rfl (.inl rfl) rfl ?_
  refine w_int ?_
  first | refine ix_tupD 1 rfl rfl ?_ | refine ix_lstD 1 rfl rfl ?_ | refine ix_tupD 1 rfl (by assumption) ?_ | refine ix_lstD 1 rfl (by assumption) ?_ | refine ix_ptrD 0 rfl 1 rfl rfl ?_ | refine ix_ptrD 1 rfl 1 rfl rfl ?_ | refine ix_ptrD 2 rfl 1 rfl rfl ?_
  refine w_un ?_
  refine w_int ?_
  walk_at "USub"
  refine ix_lstN (last_nats hSl) ?_
  refine wa_nil ?_
  refine ⟨m, 24, _, _, rfl, hm, by decide, ⟨ring_in hRi.hS hSl, ring_in hRi.hS (show S.r.length - 1 < S.r.length by omega)⟩, fun res hres => ?_⟩
  obtain rfl := res_uniq hres (ring_res hRi.hS hRi.hS hRi.ha (Nat.le_trans (Nat.mul_le_mul (show S.r.length ≤ 24 by omega) (show S.r.length ≤ 24 by omega)) (by decide)) hSl (show S.r.length - 1 < S.r.length by omega))
  have hrr : ringRes S S a 0 (S.r.length - 1) = none := by unfold ringRes; rw [if_pos rfl]
  rw [hrr]
  refine w_non ?_
  refine o_isN ?_
  exact kq c _ (by omega) rfl
end
end L09

namespace L09
open PySem PySem.Spec L2 Oc
open Evl (Ex)
local macro_rules | `(tactic| walk_at "s") => `(tactic| first | assumption | omega | decide | (simp only [] at *; omega))
local macro_rules | `(tactic| walk_at "Add") => `(tactic| first | refine o_addN ?_ | refine o_add ?_ | refine o_addS (by walk_at "s") ?_ | refine o_addT (by walk_at "s") ?_ | refine o_addL (by walk_at "s") ?_)
local macro_rules | `(tactic| walk_at "Sub") => `(tactic| refine o_sub ?_)
local macro_rules | `(tactic| walk_at "Mult") => `(tactic| refine o_mul (by walk_at "s") ?_)
local macro_rules | `(tactic| walk_at "Mod") => `(tactic| first | refine o_modN (by walk_at "s") ?_ | refine o_mod (by walk_at "s") ?_)
local macro_rules | `(tactic| walk_at "FloorDiv") => `(tactic| first | refine o_divN (by walk_at "s") ?_ | refine o_div (by walk_at "s") ?_)
local macro_rules | `(tactic| walk_at "Pow") => `(tactic| refine o_pow (by walk_at "s") ?_)
local macro_rules | `(tactic| walk_at "LShift") => `(tactic| refine o_shl (by walk_at "s") ?_)
local macro_rules | `(tactic| walk_at "RShift") => `(tactic| refine o_shr (by walk_at "s") ?_)
local macro_rules | `(tactic| walk_at "BitAnd") => `(tactic| refine o_band ?_)
local macro_rules | `(tactic| walk_at "BitXor") => `(tactic| refine o_bxor ?_)
local macro_rules | `(tactic| walk_at "BitOr") => `(tactic| refine o_bor ?_)
local macro_rules | `(tactic| walk_at "Lt") => `(tactic| refine o_lt ?_)
local macro_rules | `(tactic| walk_at "LtE") => `(tactic| refine o_le ?_)
local macro_rules | `(tactic| walk_at "Gt") => `(tactic| refine o_gt ?_)
local macro_rules | `(tactic| walk_at "GtE") => `(tactic| refine o_ge ?_)
local macro_rules | `(tactic| walk_at "Eq") => `(tactic| refine o_eq (by rfl) ?_)
local macro_rules | `(tactic| walk_at "NotEq") => `(tactic| refine o_ne (by rfl) ?_)
local macro_rules | `(tactic| walk_at "Is") => `(tactic| refine o_isN ?_)
local macro_rules | `(tactic| walk_at "IsNot") => `(tactic| refine o_notN ?_)
local macro_rules | `(tactic| walk_at "In") => `(tactic| refine o_in (by first | exact .inl rfl | exact .inr (.inl rfl) | exact .inr (.inr rfl)) (by rfl) (by rfl) ?_)
local macro_rules | `(tactic| walk_at "NotIn") => `(tactic| refine o_nin (by first | exact .inl rfl | exact .inr (.inl rfl) | exact .inr (.inr rfl)) (by rfl) (by rfl) ?_)
local macro_rules | `(tactic| walk_at "c_abs") => `(tactic| refine c_abs ?_)
local macro_rules | `(tactic| walk_at "c_len") => `(tactic| first | refine c_lenL ?_ | refine c_lenC ?_ | refine c_lenT ?_ | refine c_lenS (by walk_at "s") ?_ | refine c_lenP 0 (by first | assumption | rfl) ?_)
local macro_rules | `(tactic| walk_at "c_str") => `(tactic| refine c_str (by walk_at "s") ?_)
local macro_rules | `(tactic| walk_at "c_isinstance") => `(tactic| refine c_isi rfl (by rfl) ?_)
local macro_rules | `(tactic| walk_at "sl") => `(tactic| first | refine sd_tup ?_ | refine sd_lst ?_)
local macro_rules | `(tactic| walk_at "c_tuple") => `(tactic| first | refine c_tupL ?_ | refine c_tupP 0 (by first | assumption | rfl) ?_ | refine c_tupT ?_)
local macro_rules | `(tactic| walk_at "c_int") => `(tactic| first | refine c_intB ?_)
local macro_rules | `(tactic| walk_at "USub") => `(tactic| refine u_neg ?_)
local macro_rules | `(tactic| walk_at "pen") => `(tactic| first | assumption | exact get_set (by assumption) | exact get_set (get_set (by assumption)) | exact get_here | (apply get_cons; walk_at "pen") | (apply get_app; walk_at "pen"))
local macro_rules | `(tactic| walk_at "mu") => `(tactic| simp only [List.set_cons_succ, List.set_set, List.set_cons_zero])
/-! ### k09: two rings that part late: plain facts -/
structure LateM (m : Mach) (A B : Nat) (R S : List Nat) (s1 s2 : Nat) : Prop where
  asks : m.asks = 2
  rp : 0 < R.length
  sp : 0 < S.length
  ain : A < m.rooms.length
  bin : B < m.rooms.length
  rin : ∀ x ∈ R, x < m.rooms.length
  sin : ∀ x ∈ S, x < m.rooms.length
  a0 : m.cell A 0 = (none, none)
  a1 : m.cell A 1 = (none, some 0)
  b0 : m.cell B 0 = (none, none)
  b1 : m.cell B 1 = (none, some 1)
  r0 : ∀ k, k < R.length → m.cell (R.getD k 0) 0 = (some (R.getD ((k + 1) % R.length) 0), none)
  r1 : ∀ k, k < R.length → m.cell (R.getD k 0) 1 = (if k = s1 then some A else none, none)
  t0 : ∀ k, k < S.length → m.cell (S.getD k 0) 0 = (some (S.getD ((k + 1) % S.length) 0), none)
  t1 : ∀ k, k < S.length → m.cell (S.getD k 0) 1 = (if k = s2 then some B else none, none)
theorem late_ab {m : Mach} {A B : Nat} {R S : List Nat} {s1 s2 : Nat} (h : LateM m A B R S s1 s2) {row : List Nat} (hp : Prt m (A, B) row) : row = [1] := by
  match row, hp with
  | [], hp => exact absurd hp prt_nil
  | [x], hp =>
    obtain ⟨h1, h2⟩ := prt_one.mp hp
    rw [h.asks] at h1
    match x, h1 with
    | 0, _ =>
      unfold unlB at h2
      have h2 : unlC (m.cell A 0).2 (m.cell B 0).2 = true := h2
      rw [h.a0, h.b0] at h2
      cases h2
    | 1, _ => rfl
  | x :: y :: r, hp =>
    obtain ⟨h1, q, hq, _⟩ := (prt_cons (by simp)).mp hp
    rw [h.asks] at h1
    unfold bothF at hq
    have hq : bothC (m.cell A x).1 (m.cell B x).1 = some q := hq
    match x, h1 with
    | 0, _ => rw [h.a0, h.b0] at hq; cases hq
    | 1, _ => rw [h.a1, h.b1] at hq; cases hq
theorem late_ab1 {m : Mach} {A B : Nat} {R S : List Nat} {s1 s2 : Nat} (h : LateM m A B R S s1 s2) : Prt m (A, B) [1] := by
  refine prt_one.mpr ⟨by rw [h.asks]; decide, ?_⟩
  unfold unlB
  show unlC (m.cell A 1).2 (m.cell B 1).2 = true
  rw [h.a1, h.b1]
  rfl
theorem late_prt {m : Mach} {A B : Nat} {R S : List Nat} {s1 s2 : Nat} (h : LateM m A B R S s1 s2) : ∀ (row : List Nat) (i j : Nat), i < R.length → j < S.length →
    (Prt m (R.getD i 0, S.getD j 0) row ↔ ∃ g, row = List.replicate g 0 ++ [1, 1] ∧ (i + g) % R.length = s1 ∧ (j + g) % S.length = s2)
  | [], i, j, hi, hj => ⟨fun z => absurd z prt_nil, fun ⟨g, e, _⟩ => by simp at e⟩
  | [x], i, j, hi, hj => by
    constructor
    · intro hp
      obtain ⟨h1, h2⟩ := prt_one.mp hp
      rw [h.asks] at h1
      unfold unlB at h2
      have h2 : unlC (m.cell (R.getD i 0) x).2 (m.cell (S.getD j 0) x).2 = true := h2
      match x, h1 with
      | 0, _ => rw [h.r0 i hi, h.t0 j hj] at h2; cases h2
      | 1, _ => rw [h.r1 i hi, h.t1 j hj] at h2; cases h2
    · rintro ⟨g, e, _⟩
      have := congrArg List.length e
      rw [List.length_append, List.length_replicate] at this
      have : 1 = g + 2 := this
      omega
  | x :: y :: r, i, j, hi, hj => by
    rw [prt_cons (by simp)]
    constructor
    · rintro ⟨h1, q, hq, hp⟩
      rw [h.asks] at h1
      unfold bothF at hq
      have hq : bothC (m.cell (R.getD i 0) x).1 (m.cell (S.getD j 0) x).1 = some q := hq
      match x, h1 with
      | 0, _ =>
        rw [h.r0 i hi, h.t0 j hj] at hq
        cases hq
        obtain ⟨g, e, e1, e2⟩ := (late_prt h (y :: r) _ _ (Nat.mod_lt _ h.rp) (Nat.mod_lt _ h.sp)).mp hp
        refine ⟨g + 1, by rw [List.replicate_succ, List.cons_append, ← e], ?_, ?_⟩
        · rw [← e1, Nat.mod_add_mod, show i + (g + 1) = i + 1 + g by omega]
        · rw [← e2, Nat.mod_add_mod, show j + (g + 1) = j + 1 + g by omega]
      | 1, _ =>
        rw [h.r1 i hi, h.t1 j hj] at hq
        by_cases e1 : i = s1
        · by_cases e2 : j = s2
          · rw [if_pos e1, if_pos e2] at hq
            cases hq
            have hr := late_ab h hp
            rw [hr]
            exact ⟨0, rfl, by rw [Nat.add_zero, Nat.mod_eq_of_lt hi]; exact e1, by rw [Nat.add_zero, Nat.mod_eq_of_lt hj]; exact e2⟩
          · rw [if_pos e1, if_neg e2] at hq
            cases hq
        · rw [if_neg e1] at hq
          cases hq
    · rintro ⟨g, e, e1, e2⟩
      cases g with
      | zero =>
        have e : x :: y :: r = [1, 1] := e
        injection e with ex er
        injection er with ey er
        subst ex ey er
        rw [Nat.add_zero, Nat.mod_eq_of_lt hi] at e1
        rw [Nat.add_zero, Nat.mod_eq_of_lt hj] at e2
        refine ⟨by rw [h.asks]; decide, (A, B), ?_, late_ab1 h⟩
        unfold bothF
        show bothC (m.cell (R.getD i 0) 1).1 (m.cell (S.getD j 0) 1).1 = _
        rw [h.r1 i hi, h.t1 j hj, if_pos e1, if_pos e2]
        rfl
      | succ g =>
        rw [List.replicate_succ, List.cons_append] at e
        injection e with ex er
        subst ex
        refine ⟨by rw [h.asks]; decide, (R.getD ((i + 1) % R.length) 0, S.getD ((j + 1) % S.length) 0), ?_, (late_prt h (y :: r) _ _ (Nat.mod_lt _ h.rp) (Nat.mod_lt _ h.sp)).mpr ⟨g, er, ?_, ?_⟩⟩
        · unfold bothF
          show bothC (m.cell (R.getD i 0) 0).1 (m.cell (S.getD j 0) 0).1 = _
          rw [h.r0 i hi, h.t0 j hj]
          rfl
        · rw [Nat.mod_add_mod, ← e1, show i + 1 + g = i + (g + 1) by omega]
        · rw [Nat.mod_add_mod, ← e2, show j + 1 + g = j + (g + 1) by omega]
def lateRow (far : Nat) : List Nat := List.replicate far 0 ++ [1, 1]
/-- the row told -/
theorem late_res {m : Mach} {A B : Nat} {R S : List Nat} {s1 s2 far i j : Nat} (h : LateM m A B R S s1 s2) (hi : i < R.length) (hj : j < S.length) (e1 : (i + far) % R.length = s1) (e2 : (j + far) % S.length = s2)
    (hno : ∀ g, g < far → ¬ ((i + g) % R.length = s1 ∧ (j + g) % S.length = s2)) (hf : far ≤ 10000) : Res m (R.getD i 0, S.getD j 0) (some (lateRow far)) := by
  refine ⟨⟨(late_prt h _ i j hi hj).mpr ⟨far, rfl, e1, e2⟩, fun row' h' => ?_⟩, by unfold lateRow; rw [List.length_append, List.length_replicate]; show far + 2 ≤ _; omega⟩
  obtain ⟨g, rfl, g1, g2⟩ := (late_prt h row' i j hi hj).mp h'
  have hle : far ≤ g := Nat.le_of_not_lt fun q => hno g q ⟨g1, g2⟩
  rcases Nat.lt_or_ge far g with q | q
  · refine Nat.le_of_lt (vl_len (fun x hx => ?_) ?_)
    · rw [h.asks]
      rcases List.mem_append.mp hx with hx | hx
      · rw [List.eq_of_mem_replicate hx]; decide
      · have hx : x = 1 := by simpa using hx
        rw [hx]; decide
    · unfold lateRow
      rw [List.length_append, List.length_append, List.length_replicate, List.length_replicate]
      show far + 2 < g + 2
      omega
  · rw [show g = far by omega]
    exact Nat.le_refl _
/-- a ring of which the way by ask 0 is known, gone round -/
theorem late_go {m : Mach} {R : List Nat} (h0 : ∀ k, k < R.length → (m.cell (R.getD k 0) 0).1 = some (R.getD ((k + 1) % R.length) 0)) (hR : 0 < R.length) {i : Nat} (hi : i < R.length) : ∀ g, (runM m (some (R.getD i 0)) (List.replicate g 0)).1.length = g ∧ (runM m (some (R.getD i 0)) (List.replicate g 0)).2 = some (R.getD ((i + g) % R.length) 0)
  | 0 => ⟨rfl, by rw [Nat.add_zero, Nat.mod_eq_of_lt hi]; rfl⟩
  | g + 1 => by
    obtain ⟨a, b⟩ := late_go h0 hR hi g
    have e := runM_snoc m (some (R.getD i 0)) (List.replicate g 0) 0
    have e9 : List.replicate g 0 ++ [0] = List.replicate (g + 1) 0 := List.replicate_succ'.symm
    rw [e9] at e
    rw [e]
    unfold stepM
    rw [b]
    refine ⟨?_, ?_⟩
    · show (_ ++ [_]).length = _
      rw [List.length_append, a]; rfl
    · show (m.cell (R.getD ((i + g) % R.length) 0) 0).1 = _
      rw [h0 _ (Nat.mod_lt _ hR), Nat.mod_add_mod, Nat.add_assoc]
/-- two asks more -/
theorem late_two {m : Mach} {h : Option Nat} {u : List Nat} {n x : Nat} (h1 : (runM m h u).1.length = n) (h2 : (runM m h u).2 = some x) : (runM m h (u ++ [1])).1.length = n + 1 ∧ (runM m h (u ++ [1])).2 = (m.cell x 1).1 ∧ (runM m h (u ++ [1, 1])).1.length = n + 1 + (if (m.cell x 1).1.isSome then 1 else 0) := by
  have e := runM_snoc m h u 1
  have f : stepM m (runM m h u) 1 = ((runM m h u).1 ++ [(m.cell x 1).2], (m.cell x 1).1) := by unfold stepM; rw [h2]
  rw [f] at e
  have e2 := runM_snoc m h (u ++ [1]) 1
  rw [List.append_assoc, show ([1] ++ [1] : List Nat) = [1, 1] from rfl] at e2
  refine ⟨by rw [e]; show (_ ++ [_]).length = _; rw [List.length_append, h1]; rfl, by rw [e], ?_⟩
  rw [e2]
  unfold stepM
  rw [e]
  cases hc : (m.cell x 1).1 with
  | none =>
    show ((runM m h u).1 ++ [_]).length = _
    rw [List.length_append, h1]
    rfl
  | some y =>
    show (((runM m h u).1 ++ [_]) ++ [_]).length = _
    rw [List.length_append, List.length_append, h1]
    rfl
theorem late_sizes {n1 n2 s1 s2 far : Nat} (hn : (n1 = 11 ∧ n2 = 10) ∨ (n1 = 10 ∧ n2 = 11) ∨ (n1 = 9 ∧ n2 = 13) ∨ (n1 = 13 ∧ n2 = 9)) (h1 : s1 < n1) (h2 : s2 < n2) (hf : far < n1 * n2) {i j : Nat} (hi : (i + far) % n1 = s1) (hj : (j + far) % n2 = s2) (hin : i < n1) (hjn : j < n2) :
    ∀ g, g < far → ¬ ((i + g) % n1 = s1 ∧ (j + g) % n2 = s2) := by
  intro g hg ⟨e1, e2⟩
  rcases hn with ⟨rfl, rfl⟩ | ⟨rfl, rfl⟩ | ⟨rfl, rfl⟩ | ⟨rfl, rfl⟩ <;> omega
end L09

namespace L09
open PySem PySem.Spec L2 Oc
open Evl (Ex)
local macro_rules | `(tactic| walk_at "s") => `(tactic| first | assumption | omega | decide | (simp only [] at *; omega))
local macro_rules | `(tactic| walk_at "Add") => `(tactic| first | refine o_addN ?_ | refine o_add ?_ | refine o_addS (by walk_at "s") ?_ | refine o_addT (by walk_at "s") ?_ | refine o_addL (by walk_at "s") ?_)
local macro_rules | `(tactic| walk_at "Sub") => `(tactic| refine o_sub ?_)
local macro_rules | `(tactic| walk_at "Mult") => `(tactic| refine o_mul (by walk_at "s") ?_)
local macro_rules | `(tactic| walk_at "Mod") => `(tactic| first | refine o_modN (by walk_at "s") ?_ | refine o_mod (by walk_at "s") ?_)
local macro_rules | `(tactic| walk_at "FloorDiv") => `(tactic| first | refine o_divN (by walk_at "s") ?_ | refine o_div (by walk_at "s") ?_)
local macro_rules | `(tactic| walk_at "Pow") => `(tactic| refine o_pow (by walk_at "s") ?_)
local macro_rules | `(tactic| walk_at "LShift") => `(tactic| refine o_shl (by walk_at "s") ?_)
local macro_rules | `(tactic| walk_at "RShift") => `(tactic| refine o_shr (by walk_at "s") ?_)
local macro_rules | `(tactic| walk_at "BitAnd") => `(tactic| refine o_band ?_)
local macro_rules | `(tactic| walk_at "BitXor") => `(tactic| refine o_bxor ?_)
local macro_rules | `(tactic| walk_at "BitOr") => `(tactic| refine o_bor ?_)
local macro_rules | `(tactic| walk_at "Lt") => `(tactic| refine o_lt ?_)
local macro_rules | `(tactic| walk_at "LtE") => `(tactic| refine o_le ?_)
local macro_rules | `(tactic| walk_at "Gt") => `(tactic| refine o_gt ?_)
local macro_rules | `(tactic| walk_at "GtE") => `(tactic| refine o_ge ?_)
local macro_rules | `(tactic| walk_at "Eq") => `(tactic| refine o_eq (by rfl) ?_)
local macro_rules | `(tactic| walk_at "NotEq") => `(tactic| refine o_ne (by rfl) ?_)
local macro_rules | `(tactic| walk_at "Is") => `(tactic| refine o_isN ?_)
local macro_rules | `(tactic| walk_at "IsNot") => `(tactic| refine o_notN ?_)
local macro_rules | `(tactic| walk_at "In") => `(tactic| refine o_in (by first | exact .inl rfl | exact .inr (.inl rfl) | exact .inr (.inr rfl)) (by rfl) (by rfl) ?_)
local macro_rules | `(tactic| walk_at "NotIn") => `(tactic| refine o_nin (by first | exact .inl rfl | exact .inr (.inl rfl) | exact .inr (.inr rfl)) (by rfl) (by rfl) ?_)
local macro_rules | `(tactic| walk_at "c_abs") => `(tactic| refine c_abs ?_)
local macro_rules | `(tactic| walk_at "c_len") => `(tactic| first | refine c_lenL ?_ | refine c_lenC ?_ | refine c_lenT ?_ | refine c_lenS (by walk_at "s") ?_ | refine c_lenP 0 (by first | assumption | rfl) ?_)
local macro_rules | `(tactic| walk_at "c_str") => `(tactic| refine c_str (by walk_at "s") ?_)
local macro_rules | `(tactic| walk_at "c_isinstance") => `(tactic| refine c_isi rfl (by rfl) ?_)
local macro_rules | `(tactic| walk_at "sl") => `(tactic| first | refine sd_tup ?_ | refine sd_lst ?_)
local macro_rules | `(tactic| walk_at "c_tuple") => `(tactic| first | refine c_tupL ?_ | refine c_tupP 0 (by first | assumption | rfl) ?_ | refine c_tupT ?_)
local macro_rules | `(tactic| walk_at "c_int") => `(tactic| first | refine c_intB ?_)
local macro_rules | `(tactic| walk_at "USub") => `(tactic| refine u_neg ?_)
local macro_rules | `(tactic| walk_at "pen") => `(tactic| first | assumption | exact get_set (by assumption) | exact get_set (get_set (by assumption)) | exact get_here | (apply get_cons; walk_at "pen") | (apply get_app; walk_at "pen"))
local macro_rules | `(tactic| walk_at "mu") => `(tactic| simp only [List.set_cons_succ, List.set_set, List.set_cons_zero])
/-! ### k09: two rings that part late: the walk -/
abbrev ik (r : Nat) : Key := .inl (r : Int)
theorem valD_append {κ : Type} [DecidableEq κ] {k : κ} : ∀ (a b : List (κ × D)), valD (a ++ b) k = (valD a k).or (valD b k)
  | [], b => rfl
  | p :: a, b => by
    by_cases e : p.1 = k
    · obtain ⟨p1, p2⟩ := p
      have e : p1 = k := e
      subst e
      rw [List.cons_append, valD_pos, valD_pos]
      rfl
    · rw [List.cons_append, valD_neg e, valD_neg e]
      exact valD_append a b
theorem valD_put {κ : Type} [DecidableEq κ] (ds : List (κ × D)) (k j : κ) (v : D) : valD (putD ds k v) j = if k = j then some v else valD ds j := by
  unfold putD
  split
  · rename_i h
    induction ds with
    | nil => cases h
    | cons p ds ih =>
      obtain ⟨p1, p2⟩ := p
      rw [List.map_cons]
      by_cases e : p1 = k
      · subst e
        rw [if_pos rfl]
        by_cases e2 : p1 = j
        · subst e2
          rw [valD_pos, if_pos rfl]
        · rw [valD_neg e2, if_neg e2, valD_neg e2]
          by_cases hd : (ds.any fun kv => decide (kv.1 = p1)) = true
          · have := ih hd
            rw [if_neg e2] at this
            exact this
          · have hmap : ds.map (fun kv => if kv.1 = p1 then (kv.1, v) else kv) = ds := by
              refine (List.map_congr_left fun kv hkv => ?_).trans (List.map_id ds)
              rw [if_neg fun z => hd (List.any_eq_true.mpr ⟨kv, hkv, decide_eq_true z⟩)]
              rfl
            rw [hmap]
      · rw [if_neg e]
        have hd : (ds.any fun kv => decide (kv.1 = k)) = true := by
          rw [List.any_cons, Bool.or_eq_true] at h
          rcases h with h | h
          · exact absurd (of_decide_eq_true h) e
          · exact h
        by_cases e2 : p1 = j
        · subst e2
          rw [valD_pos, valD_pos, if_neg fun z => e z.symm]
        · rw [valD_neg e2, valD_neg e2]
          exact ih hd
  · rename_i h
    rw [valD_append]
    by_cases e : k = j
    · subst e
      rw [if_pos rfl, valD_pos]
      have : valD ds k = none := by
        cases hv : valD ds k with
        | none => rfl
        | some d =>
          exfalso
          refine h ?_
          induction ds with
          | nil => cases hv
          | cons p ds ih =>
            obtain ⟨p1, p2⟩ := p
            by_cases e : p1 = k
            · exact List.any_eq_true.mpr ⟨_, List.mem_cons_self, decide_eq_true e⟩
            · rw [valD_neg e] at hv
              have hh : ¬ (ds.any fun kv => decide (kv.1 = k)) = true := fun z => h (by rw [List.any_cons, z, Bool.or_true])
              exact absurd (ih hh hv) hh
      rw [this]
      rfl
    · rw [if_neg e, valD_neg e]
      show (valD ds j).or none = _
      rw [Option.or_none]
theorem ik_inj {x y : Nat} (h : ik x = ik y) : x = y := by
  injection h with h
  omega
def ringRoom (R : List Nat) (s T k : Nat) : List Cell := [(some (R.getD ((k + 1) % R.length) 0), none), (if k = s then some T else none, none)]
def lateRoom (A B : Nat) (R S : List Nat) (s1 s2 x : Nat) : List Cell :=
  if x = A then [(none, none), (none, some 0)] else if x = B then [(none, none), (none, some 1)] else if x ∈ R then ringRoom R s1 A (R.idxOf x) else ringRoom S s2 B (S.idxOf x)
theorem idx_getD {l : List Nat} (nd : l.Nodup) {k : Nat} (hk : k < l.length) : l.idxOf (l.getD k 0) = k := by
  have hm := getD_mem hk
  have hlt := List.idxOf_lt_length_of_mem hm
  refine getD_inj nd hlt hk ?_
  rw [List.getD_eq_getElem?_getD, List.getElem?_eq_getElem hlt, List.getElem_idxOf]
  rfl
structure LateN (A B : Nat) (R S : List Nat) (N : Nat) : Prop where
  pm : (A :: B :: (R ++ S)).Perm (List.range N)
theorem LateN.nd {A B : Nat} {R S : List Nat} {N : Nat} (h : LateN A B R S N) : A ≠ B ∧ A ∉ R ∧ A ∉ S ∧ B ∉ R ∧ B ∉ S ∧ R.Nodup ∧ S.Nodup ∧ ∀ x ∈ R, ∀ y ∈ S, x ≠ y := by
  have h1 := (h.pm.nodup_iff).mpr List.nodup_range
  obtain ⟨a, h2⟩ := List.nodup_cons.mp h1
  obtain ⟨b, h3⟩ := List.nodup_cons.mp h2
  obtain ⟨r, s, d⟩ := List.nodup_append.mp h3
  simp only [List.mem_cons, List.mem_append, not_or] at a b
  exact ⟨a.1, a.2.1, a.2.2, b.1, b.2, r, s, d⟩
theorem LateN.lt {A B : Nat} {R S : List Nat} {N : Nat} (h : LateN A B R S N) : A < N ∧ B < N ∧ (∀ x ∈ R, x < N) ∧ ∀ x ∈ S, x < N :=
  ⟨List.mem_range.mp (h.pm.mem_iff.mp (by simp)), List.mem_range.mp (h.pm.mem_iff.mp (by simp)), fun x hx => List.mem_range.mp (h.pm.mem_iff.mp (by simp [hx])), fun x hx => List.mem_range.mp (h.pm.mem_iff.mp (by simp [hx]))⟩
theorem ne_of_mem {l : List Nat} {x y : Nat} (h : x ∈ l) (n : y ∉ l) : ¬ x = y := fun e => n (e ▸ h)
theorem lr_A {A B : Nat} {R S : List Nat} {s1 s2 : Nat} : lateRoom A B R S s1 s2 A = [(none, none), (none, some 0)] := if_pos rfl
theorem lr_B {A B : Nat} {R S : List Nat} {s1 s2 N : Nat} (h : LateN A B R S N) : lateRoom A B R S s1 s2 B = [(none, none), (none, some 1)] := by
  unfold lateRoom
  rw [if_neg (fun e => h.nd.1 e.symm), if_pos rfl]
theorem lr_R {A B : Nat} {R S : List Nat} {s1 s2 N : Nat} (h : LateN A B R S N) {k : Nat} (hk : k < R.length) : lateRoom A B R S s1 s2 (R.getD k 0) = ringRoom R s1 A k := by
  obtain ⟨n1, n2, n3, n4, n5, n6, n7, n8⟩ := h.nd
  have hm := getD_mem hk
  unfold lateRoom
  rw [if_neg (ne_of_mem hm n2), if_neg (ne_of_mem hm n4), if_pos hm, idx_getD n6 hk]
theorem lr_S {A B : Nat} {R S : List Nat} {s1 s2 N : Nat} (h : LateN A B R S N) {k : Nat} (hk : k < S.length) : lateRoom A B R S s1 s2 (S.getD k 0) = ringRoom S s2 B k := by
  obtain ⟨n1, n2, n3, n4, n5, n6, n7, n8⟩ := h.nd
  have hm := getD_mem hk
  unfold lateRoom
  rw [if_neg (ne_of_mem hm n3), if_neg (ne_of_mem hm n5), if_neg (fun e => n8 _ e _ hm rfl), idx_getD n7 hk]
def mkM (N : Nat) (f : Nat → List Cell) : Mach := ⟨2, (List.range N).map f⟩
theorem mk_cell {N : Nat} {f : Nat → List Cell} {x : Nat} (hx : x < N) (o : Nat) : (mkM N f).cell x o = (f x).getD o (none, none) := by
  unfold Mach.cell mkM
  show (((List.range N).map f).getD x []).getD o (none, none) = _
  rw [List.getD_eq_getElem?_getD (l := (List.range N).map f), List.getElem?_map, List.getElem?_range hx]
  rfl
theorem mk_len (N : Nat) (f : Nat → List Cell) : (mkM N f).rooms.length = N := by show ((List.range N).map f).length = N; rw [List.length_map, List.length_range]
theorem late_M {A B : Nat} {R S : List Nat} {s1 s2 N : Nat} (h : LateN A B R S N) (hR : 0 < R.length) (hS : 0 < S.length) : LateM (mkM N (lateRoom A B R S s1 s2)) A B R S s1 s2 := by
  obtain ⟨l1, l2, l3, l4⟩ := h.lt
  refine ⟨rfl, hR, hS, by rw [mk_len]; exact l1, by rw [mk_len]; exact l2, by rw [mk_len]; exact l3, by rw [mk_len]; exact l4, ?_, ?_, ?_, ?_, fun k hk => ?_, fun k hk => ?_, fun k hk => ?_, fun k hk => ?_⟩
  · rw [mk_cell l1, lr_A]; rfl
  · rw [mk_cell l1, lr_A]; rfl
  · rw [mk_cell l2, lr_B h]; rfl
  · rw [mk_cell l2, lr_B h]; rfl
  · rw [mk_cell (l3 _ (getD_mem hk)), lr_R h hk]; rfl
  · rw [mk_cell (l3 _ (getD_mem hk)), lr_R h hk]; rfl
  · rw [mk_cell (l4 _ (getD_mem hk)), lr_S h hk]; rfl
  · rw [mk_cell (l4 _ (getD_mem hk)), lr_S h hk]; rfl
theorem late_cOk {A B : Nat} {R S : List Nat} {s1 s2 N : Nat} (h : LateN A B R S N) (hR : 0 < R.length) (hS : 0 < S.length) {x : Nat} (hx : x < N) : (lateRoom A B R S s1 s2 x).length = 2 ∧ ∀ c ∈ lateRoom A B R S s1 s2 x, cOk N 8 c := by
  obtain ⟨l1, l2, l3, l4⟩ := h.lt
  have rr : ∀ {Q : List Nat} {s T k : Nat}, 0 < Q.length → (∀ x ∈ Q, x < N) → T < N → (ringRoom Q s T k).length = 2 ∧ ∀ c ∈ ringRoom Q s T k, cOk N 8 c := fun {Q s T k} h0 h1 h2 => by
    refine ⟨rfl, fun c hc => ?_⟩
    unfold ringRoom at hc
    rcases List.mem_cons.mp hc with rfl | hc
    · exact ⟨fun g e => by cases e; exact h1 _ (getD_mem (Nat.mod_lt _ h0)), fun s e => (nomatch e)⟩
    · rw [List.mem_singleton] at hc
      subst hc
      refine ⟨fun g e => ?_, fun s e => (nomatch e)⟩
      have e : (if k = s then some T else none) = some g := e
      split at e
      · cases e; exact h2
      · cases e
  unfold lateRoom
  split
  · refine ⟨rfl, fun c hc => ?_⟩
    rcases List.mem_cons.mp hc with rfl | hc
    · exact ⟨fun g e => (nomatch e), fun s e => (nomatch e)⟩
    · rw [List.mem_singleton] at hc
      subst hc
      exact ⟨fun g e => (nomatch e), fun s e => by cases e; decide⟩
  · split
    · refine ⟨rfl, fun c hc => ?_⟩
      rcases List.mem_cons.mp hc with rfl | hc
      · exact ⟨fun g e => (nomatch e), fun s e => (nomatch e)⟩
      · rw [List.mem_singleton] at hc
        subst hc
        exact ⟨fun g e => (nomatch e), fun s e => by cases e; decide⟩
    · split
      · exact rr hR l3 l1
      · exact rr hS l4 l2
theorem mk_ok {N : Nat} {f : Nat → List Cell} (h0 : 0 < N) (h1 : N ≤ 24) (hf : ∀ x, x < N → (f x).length = 2 ∧ ∀ c ∈ f x, cOk N 8 c) : (mkM N f).Ok 24 := by
  refine ⟨by show 0 < 2; decide, by show 2 ≤ 4; decide, by rw [mk_len]; exact h0, by rw [mk_len]; exact h1, fun r hr => ?_⟩
  rw [mk_len]
  obtain ⟨x, hx, rfl⟩ := List.mem_map.mp (show r ∈ (List.range N).map f from hr)
  exact hf x (List.mem_range.mp hx)
/-- the same with one way closed -/
def bentRoom (A B : Nat) (R S : List Nat) (s1 s2 x : Nat) : List Cell := if x = R.getD s1 0 then [(some (R.getD ((s1 + 1) % R.length) 0), none), (none, none)] else lateRoom A B R S s1 s2 x
theorem bent_lets {A B : Nat} {R S : List Nat} {s1 s2 N far i j : Nat} (h : LateN A B R S N) (hs1 : s1 < R.length) (hs2 : s2 < S.length) (hi : i < R.length) (hj : j < S.length) (e1 : (i + far) % R.length = s1) (e2 : (j + far) % S.length = s2) :
    (runM (mkM N (bentRoom A B R S s1 s2)) (some (R.getD i 0)) (lateRow far)).1.length = far + 1 ∧ (runM (mkM N (bentRoom A B R S s1 s2)) (some (R.getD i 0)) (List.replicate far 0 ++ [1])).1.length = far + 1 ∧ (runM (mkM N (bentRoom A B R S s1 s2)) (some (S.getD j 0)) (lateRow far)).1.length = far + 2 := by
  obtain ⟨l1, l2, l3, l4⟩ := h.lt
  obtain ⟨n1, n2, n3, n4, n5, n6, n7, n8⟩ := h.nd
  have bS : ∀ k, k < S.length → bentRoom A B R S s1 s2 (S.getD k 0) = ringRoom S s2 B k := fun k hk => by
    unfold bentRoom
    rw [if_neg (fun e => n8 _ (getD_mem hs1) _ (getD_mem hk) e.symm), lr_S h hk]
  have g0 : ∀ k, k < R.length → ((mkM N (bentRoom A B R S s1 s2)).cell (R.getD k 0) 0).1 = some (R.getD ((k + 1) % R.length) 0) := fun k hk => by
    rw [mk_cell (l3 _ (getD_mem hk))]
    unfold bentRoom
    by_cases e : R.getD k 0 = R.getD s1 0
    · rw [if_pos e, getD_inj n6 hk hs1 e]; rfl
    · rw [if_neg e, lr_R h hk]; rfl
  have g1 : ∀ k, k < S.length → ((mkM N (bentRoom A B R S s1 s2)).cell (S.getD k 0) 0).1 = some (S.getD ((k + 1) % S.length) 0) := fun k hk => by
    rw [mk_cell (l4 _ (getD_mem hk)), bS k hk]; rfl
  obtain ⟨a1, a2⟩ := late_go g0 (by omega) hi far
  obtain ⟨b1, b2⟩ := late_go g1 (by omega) hj far
  rw [e1] at a2
  rw [e2] at b2
  obtain ⟨c1, c2, c3⟩ := late_two a1 a2
  obtain ⟨d1, d2, d3⟩ := late_two b1 b2
  have x1 : ((mkM N (bentRoom A B R S s1 s2)).cell (R.getD s1 0) 1).1 = none := by
    rw [mk_cell (l3 _ (getD_mem hs1))]
    unfold bentRoom
    rw [if_pos rfl]; rfl
  have x2 : ((mkM N (bentRoom A B R S s1 s2)).cell (S.getD s2 0) 1).1 = some B := by
    rw [mk_cell (l4 _ (getD_mem hs2)), bS s2 hs2]
    unfold ringRoom
    show (if s2 = s2 then some B else none) = _
    rw [if_pos rfl]
  rw [x1] at c3
  rw [x2] at d3
  exact ⟨c3, c1, d3⟩
structure DKn (A B : Nat) (R S : List Nat) (f : Nat → List Cell) (ds : List (Key × D)) (t k : Nat) : Prop where
  a : valD ds (ik A) = some (roomD (f A))
  b : valD ds (ik B) = some (roomD (f B))
  r : ∀ t' i' X, [R, S][t']? = some X → i' < X.length → (t' < t ∨ (t' = t ∧ i' < k)) → valD ds (ik (X.getD i' 0)) = some (roomD (f (X.getD i' 0)))
  ln : ds.length ≤ 2 + 30 * t + k
theorem put_len (ds : List (Key × D)) (k : Key) (v : D) : (putD ds k v).length ≤ ds.length + 1 := by
  unfold putD
  split
  · rw [List.length_map]; omega
  · rw [List.length_append]; exact Nat.le_refl _
theorem put_keep {f : Nat → List Cell} {ds : List (Key × D)} {x y : Nat} (h : y = x ∨ valD ds (ik y) = some (roomD (f y))) : valD (putD ds (ik x) (roomD (f x))) (ik y) = some (roomD (f y)) := by
  rw [valD_put]
  by_cases e : ik x = ik y
  · rw [if_pos e, ik_inj e]
  · rw [if_neg e]
    exact h.resolve_left fun z => e (by rw [z])
theorem DKn.put {A B : Nat} {R S : List Nat} {f : Nat → List Cell} {ds : List (Key × D)} {t k : Nat} (h : DKn A B R S f ds t k) {X : List Nat} (hX : [R, S][t]? = some X) : DKn A B R S f (putD ds (ik (X.getD k 0)) (roomD (f (X.getD k 0)))) t (k + 1) := by
  refine ⟨put_keep (.inr h.a), put_keep (.inr h.b), fun t' i' Y h1 h2 h3 => put_keep ?_, by have := put_len ds (ik (X.getD k 0)) (roomD (f (X.getD k 0))); have := h.ln; omega⟩
  by_cases e : t' = t ∧ i' = k
  · obtain ⟨rfl, rfl⟩ := e
    rw [hX] at h1
    cases h1
    exact .inl rfl
  · exact .inr (h.r t' i' Y h1 h2 (by omega))
theorem DKn.next {A B : Nat} {R S : List Nat} {f : Nat → List Cell} {ds : List (Key × D)} {t k : Nat} (h : DKn A B R S f ds t k) {X : List Nat} (hX : [R, S][t]? = some X) (hk : k = X.length) (h30 : k ≤ 30) : DKn A B R S f ds (t + 1) 0 := by
  refine ⟨h.a, h.b, fun t' i' Y h1 h2 h3 => ?_, by have := h.ln; omega⟩
  rcases h3 with h3 | h3
  · rcases Nat.lt_or_ge t' t with q | q
    · exact h.r t' i' Y h1 h2 (.inl q)
    · have e : t' = t := by omega
      subst e
      rw [hX] at h1
      cases h1
      exact h.r t' i' X hX h2 (.inr ⟨rfl, by omega⟩)
  · omega
theorem DKn.all {A B : Nat} {R S : List Nat} {f : Nat → List Cell} {ds : List (Key × D)} {N : Nat} (h : DKn A B R S f ds 2 0) (hN : LateN A B R S N) {x : Nat} (hx : x < N) : valD ds (ik x) = some (roomD (f x)) := by
  have hm := hN.pm.mem_iff.mpr (List.mem_range.mpr hx)
  rcases List.mem_cons.mp hm with rfl | hm
  · exact h.a
  rcases List.mem_cons.mp hm with rfl | hm
  · exact h.b
  rcases List.mem_append.mp hm with hm | hm
  · obtain ⟨i, hi, rfl⟩ := getD_idx hm
    exact h.r 0 i R rfl hi (.inl (by decide))
  · obtain ⟨i, hi, rfl⟩ := getD_idx hm
    exact h.r 1 i S rfl hi (.inl (by decide))
theorem ints_uniq : ∀ {A B : List Int}, A.Perm B → A.Pairwise (· ≤ ·) → B.Pairwise (· ≤ ·) → A = B
  | [], B, hp, _, _ => (List.nil_perm.mp hp).symm ▸ rfl
  | a :: A, [], hp, _, _ => by have := hp.length_eq; cases this
  | a :: A, b :: B, hp, ha, hb => by
    have hab : a = b := by
      rcases List.mem_cons.mp (hp.mem_iff.mp List.mem_cons_self) with h | h
      · exact h
      · rcases List.mem_cons.mp (hp.symm.mem_iff.mp List.mem_cons_self) with h' | h'
        · exact h'.symm
        · have := List.rel_of_pairwise_cons ha h'
          have := List.rel_of_pairwise_cons hb h
          omega
    subst hab
    rw [ints_uniq (List.Perm.cons_inv hp) ha.of_cons hb.of_cons]
theorem sorted_range {l : List Nat} {N : Nat} {ns : List Int} (hl : l.Perm (List.range N)) (hp : ns.Perm (l.map fun a : Nat => (a : Int))) (hs : ns.Pairwise (· ≤ ·)) : ns = (List.range N).map fun a : Nat => (a : Int) := by
  refine ints_uniq (hp.trans (hl.map _)) hs ?_
  rw [List.pairwise_map]
  exact List.pairwise_lt_range.imp fun {a b} h => by omega
end L09

namespace L09
open PySem PySem.Spec L2 Oc
open Evl (Ex)
local macro_rules | `(tactic| walk_at "s") => `(tactic| first | assumption | omega | decide | (simp only [] at *; omega))
local macro_rules | `(tactic| walk_at "Add") => `(tactic| first | refine o_addN ?_ | refine o_add ?_ | refine o_addS (by walk_at "s") ?_ | refine o_addT (by walk_at "s") ?_ | refine o_addL (by walk_at "s") ?_)
local macro_rules | `(tactic| walk_at "Sub") => `(tactic| refine o_sub ?_)
local macro_rules | `(tactic| walk_at "Mult") => `(tactic| refine o_mul (by walk_at "s") ?_)
local macro_rules | `(tactic| walk_at "Mod") => `(tactic| first | refine o_modN (by walk_at "s") ?_ | refine o_mod (by walk_at "s") ?_)
local macro_rules | `(tactic| walk_at "FloorDiv") => `(tactic| first | refine o_divN (by walk_at "s") ?_ | refine o_div (by walk_at "s") ?_)
local macro_rules | `(tactic| walk_at "Pow") => `(tactic| refine o_pow (by walk_at "s") ?_)
local macro_rules | `(tactic| walk_at "LShift") => `(tactic| refine o_shl (by walk_at "s") ?_)
local macro_rules | `(tactic| walk_at "RShift") => `(tactic| refine o_shr (by walk_at "s") ?_)
local macro_rules | `(tactic| walk_at "BitAnd") => `(tactic| refine o_band ?_)
local macro_rules | `(tactic| walk_at "BitXor") => `(tactic| refine o_bxor ?_)
local macro_rules | `(tactic| walk_at "BitOr") => `(tactic| refine o_bor ?_)
local macro_rules | `(tactic| walk_at "Lt") => `(tactic| refine o_lt ?_)
local macro_rules | `(tactic| walk_at "LtE") => `(tactic| refine o_le ?_)
local macro_rules | `(tactic| walk_at "Gt") => `(tactic| refine o_gt ?_)
local macro_rules | `(tactic| walk_at "GtE") => `(tactic| refine o_ge ?_)
local macro_rules | `(tactic| walk_at "Eq") => `(tactic| refine o_eq (by rfl) ?_)
local macro_rules | `(tactic| walk_at "NotEq") => `(tactic| refine o_ne (by rfl) ?_)
local macro_rules | `(tactic| walk_at "Is") => `(tactic| refine o_isN ?_)
local macro_rules | `(tactic| walk_at "IsNot") => `(tactic| refine o_notN ?_)
local macro_rules | `(tactic| walk_at "In") => `(tactic| refine o_in (by first | exact .inl rfl | exact .inr (.inl rfl) | exact .inr (.inr rfl)) (by rfl) (by rfl) ?_)
local macro_rules | `(tactic| walk_at "NotIn") => `(tactic| refine o_nin (by first | exact .inl rfl | exact .inr (.inl rfl) | exact .inr (.inr rfl)) (by rfl) (by rfl) ?_)
local macro_rules | `(tactic| walk_at "c_abs") => `(tactic| refine c_abs ?_)
local macro_rules | `(tactic| walk_at "c_len") => `(tactic| first | refine c_lenL ?_ | refine c_lenC ?_ | refine c_lenT ?_ | refine c_lenS (by walk_at "s") ?_ | refine c_lenP 0 (by first | assumption | rfl) ?_)
local macro_rules | `(tactic| walk_at "c_str") => `(tactic| refine c_str (by walk_at "s") ?_)
local macro_rules | `(tactic| walk_at "c_isinstance") => `(tactic| refine c_isi rfl (by rfl) ?_)
local macro_rules | `(tactic| walk_at "sl") => `(tactic| first | refine sd_tup ?_ | refine sd_lst ?_)
local macro_rules | `(tactic| walk_at "c_tuple") => `(tactic| first | refine c_tupL ?_ | refine c_tupP 0 (by first | assumption | rfl) ?_ | refine c_tupT ?_)
local macro_rules | `(tactic| walk_at "c_int") => `(tactic| first | refine c_intB ?_)
local macro_rules | `(tactic| walk_at "USub") => `(tactic| refine u_neg ?_)
local macro_rules | `(tactic| walk_at "pen") => `(tactic| first | assumption | exact get_set (by assumption) | exact get_set (get_set (by assumption)) | exact get_here | (apply get_cons; walk_at "pen") | (apply get_app; walk_at "pen"))
local macro_rules | `(tactic| walk_at "mu") => `(tactic| simp only [List.set_cons_succ, List.set_set, List.set_cons_zero])
def S_late : FS := fun ds μ Φ => ∃ (ns : List Int) (n : Nat) (q : Addr) (i : Nat), ds = [.ptr q] ∧ μ[i]? = some (q, penO ns n) ∧ n ≤ 500000 ∧ ∀ (n' : Nat) μ', n' ≤ n + 200 → μ' = μ.set i (q, penO ns n') → Φ (.bl true) μ'
abbrev Kds := List (Key × D)
theorem lateRow_D (far : Nat) : D.tup ((List.replicate ((far : Nat) : Int).toNat [D.int ((0 : Nat) : Int)]).flatten ++ [D.int 1, D.int 1]) = rowD (lateRow far) := by
  rw [rep_flat]
  unfold lateRow
  show _ = D.tup ((List.replicate far 0 ++ [1, 1]).map _)
  rw [List.map_append]
  rfl
theorem lateRow_D2 (far : Nat) : D.tup ((List.replicate ((far : Nat) : Int).toNat [D.int 0]).flatten ++ [D.int 1, D.int 1]) = rowD (lateRow far) := lateRow_D far
theorem rho17 (N : List Str) (h : N.length = 17) (d : D) : rho N [d] = [some d, none, none, none, none, none, none, none, none, none, none, none, none, none, none, none, none] := by
  unfold rho
  rw [h]
  rfl
theorem tm_late {far : Nat} (h : far ≤ 1000) : Tm (roP (some (lateRow far))) 5000 5 := by
  have t1 : Tms ((lateRow far).map fun a : Nat => PyData.int a) ((0 + 1) * (lateRow far).length) 0 := Tms.map fun a ha => Tm.int (by
    rcases List.mem_append.mp ha with ha | ha
    · rw [List.eq_of_mem_replicate ha]; decide
    · have ha : a = 1 := by simpa using ha
      rw [ha]; decide)
  have hl : (lateRow far).length = far + 2 := by unfold lateRow; rw [List.length_append, List.length_replicate]; rfl
  exact (Tm.tup t1).mono (by omega) (by omega)
theorem merge_two {A B : Nat} (h : A ≠ B) (x y : D) : mergeD [] [(ik A, x), (ik B, y)] = [(ik A, x), (ik B, y)] := by
  have e : (ik A = ik B) = False := by
    rw [eq_iff_iff]
    exact ⟨fun z => h (ik_inj z), fun z => z.elim⟩
  simp only [mergeD, List.foldl_cons, List.foldl_nil, putD, List.any_cons, List.any_nil, e, decide_false, Bool.or_self, Bool.false_eq_true, if_false, List.nil_append, List.cons_append]
theorem take_late (far : Nat) : (lateRow far).take (far + 1) = List.replicate far 0 ++ [1] := by
  unfold lateRow
  rw [List.take_append, List.length_replicate, List.take_of_length_le (by rw [List.length_replicate]; omega), show far + 1 - far = 1 by omega]
  rfl
theorem mk_D (N : Nat) (f : Nat → List Cell) : D.tup [.int 2, .tup ((List.range N).map fun x => roomD (f x))] = machD (mkM N f) := by
  show _ = D.tup [.int 2, .tup (((List.range N).map f).map roomD)]
  rw [List.map_map]
  rfl
theorem back {n s far : Nat} (hn : n = 9 ∨ n = 10 ∨ n = 11 ∨ n = 13) (hs : s < n) : ∃ i : Nat, ((s : Int) - (far : Int)) % (n : Int) = (i : Int) ∧ i < n ∧ (i + far) % n = s := by
  refine ⟨(((s : Int) - (far : Int)) % (n : Int)).toNat, ?_, ?_, ?_⟩ <;> rcases hn with rfl | rfl | rfl | rfl <;> omega
theorem bent_val {A B : Nat} {R S : List Nat} {s1 s2 N : Nat} {f : Nat → List Cell} {ds : Kds} (h : ∀ x, x < N → valD ds (ik x) = some (roomD (f x))) {x : Nat} (hx : x < N) (hf : f = lateRoom A B R S s1 s2) :
    valD (putD ds (ik (R.getD s1 0)) (D.tup [cellD (some (R.getD ((s1 + 1) % R.length) 0), none), .tup [.non, .non]])) (ik x) = some (roomD (bentRoom A B R S s1 s2 x)) := by
  rw [valD_put]
  unfold bentRoom
  by_cases e : ik (R.getD s1 0) = ik x
  · rw [if_pos e, if_pos (ik_inj e).symm]; rfl
  · rw [if_neg e, if_neg (fun z => e (by rw [z])), h x hx, hf]
theorem bent_cOk {A B : Nat} {R S : List Nat} {s1 s2 N : Nat} (h : LateN A B R S N) (hR : 0 < R.length) (hS : 0 < S.length) (hs1 : s1 < R.length) {x : Nat} (hx : x < N) : (bentRoom A B R S s1 s2 x).length = 2 ∧ ∀ c ∈ bentRoom A B R S s1 s2 x, cOk N 8 c := by
  unfold bentRoom
  split
  · refine ⟨rfl, fun c hc => ?_⟩
    rcases List.mem_cons.mp hc with rfl | hc
    · exact ⟨fun g e => by cases e; exact h.lt.2.2.1 _ (getD_mem (Nat.mod_lt _ hR)), fun s e => (nomatch e)⟩
    · rw [List.mem_singleton] at hc
      subst hc
      exact ⟨fun g e => (nomatch e), fun s e => (nomatch e)⟩
  · exact late_cOk h hR hS hx
section
variable {P : Program} {w : World} {K : PySem.W.Frag} {mg : Str → Option Value} {base : Heap}
theorem ok_late (B : Src K mg "_law_late_right" s__law_late_right ["_law_pen"]) (T : Tx mg) (G__law_take : KnG P w K mg base 1 "_law_take" ["_law_pen", "_law_many"] S_draw) (G_parting : KnG P w K mg base 3 "parting" ["machine", "one", "other"] S_part) (G__law_said : KnG P w K mg base 3 "_law_said" ["_law_machine_here", "_law_one", "_law_other", "_law_row"] S_said) (G_lets : KnG P w K mg base 2 "lets" ["machine", "room", "row"] S_lets) : KnG P w K mg base 4 "_law_late_right" ["_law_pen"] S_late := by
  refine kn_ofG B sc__law_late_right (fun ds μ Φ h => by obtain ⟨_, _, _, _, rfl, _⟩ := h; rfl) fun f cdv A outer s H E grd hr ds μ Φ h => ?_
  obtain ⟨ns, n, qp, ip, rfl, hpen, hn, kq⟩ := h
  have hu := hu_of hr.r
  refine wSs_rho (rho17 _ rfl _) ?_
  -- _law_sizes = [(11, 10), (10, 11), (9, 13), (13, 9)][_law_take(_law_pen, 4)]
  refine w_cons (w_set 1 sc__law_late_right.nd rfl (.inl rfl) (.inl rfl) ?_)
  refine w_ix ?_
  refine w_lst ?_
  refine wa_cons ?_
  refine w_tup ?_
  refine wa_cons ?_
  refine w_int ?_
  refine wa_cons ?_
  refine w_int ?_
  refine wa_nil ?_
  refine ⟨by simp, ?_⟩
  refine wa_cons ?_
  refine w_tup ?_
  refine wa_cons ?_
  refine w_int ?_
  refine wa_cons ?_
  refine w_int ?_
  refine wa_nil ?_
  refine ⟨by simp, ?_⟩
  refine wa_cons ?_
  refine w_tup ?_
  refine wa_cons ?_
  refine w_int ?_
  refine wa_cons ?_
  refine w_int ?_
  refine wa_nil ?_
  refine ⟨by simp, ?_⟩
  refine wa_cons ?_
  refine w_tup ?_
  refine wa_cons ?_
  refine w_int ?_
  refine wa_cons ?_
  refine w_int ?_
  refine wa_nil ?_
  refine ⟨by simp, ?_⟩
  refine wa_nil ?_
  refine ⟨by simp, ?_⟩
  refine w_callG G__law_take hr ?_
  refine wa_cons ?_
  refine w_name 0 rfl (.inr (.inl rfl)) rfl ?_
  refine wa_cons ?_
  refine w_int ?_
  refine wa_nil ?_
  refine ⟨_, _, _, _, _, rfl, by walk_at "pen", by omega, by omega, fun r1 μ1 hr1 e1 => ?_⟩
  try simp only [List.set_cons_succ, List.set_set, List.set_cons_zero] at e1
  subst e1
  obtain ⟨n1, n2, hget, hn12⟩ : ∃ n1 n2 : Nat, [D.tup [.int 11, .int 10], .tup [.int 10, .int 11], .tup [.int 9, .int 13], .tup [.int 13, .int 9]][r1]? = some (.tup [.int n1, .int n2]) ∧ ((n1 = 11 ∧ n2 = 10) ∨ (n1 = 10 ∧ n2 = 11) ∨ (n1 = 9 ∧ n2 = 13) ∨ (n1 = 13 ∧ n2 = 9)) := by
    have h4 : r1 < 4 := by omega
    match r1, h4 with
    | 0, _ => exact ⟨11, 10, rfl, by omega⟩
    | 1, _ => exact ⟨10, 11, rfl, by omega⟩
    | 2, _ => exact ⟨9, 13, rfl, by omega⟩
    | 3, _ => exact ⟨13, 9, rfl, by omega⟩
  have hprod : 110 ≤ n1 * n2 ∧ n1 * n2 ≤ 117 := by rcases hn12 with ⟨rfl, rfl⟩ | ⟨rfl, rfl⟩ | ⟨rfl, rfl⟩ | ⟨rfl, rfl⟩ <;> decide
  have hn1 : 9 ≤ n1 ∧ n1 ≤ 13 := by omega
  have hn2 : 9 ≤ n2 ∧ n2 ≤ 13 := by omega
  have hn3 : n1 + n2 + 2 ≤ 24 := by omega
  refine ix_lstD r1 rfl hget ?_
  -- _law_left = list(range(_law_sizes[0] + _law_sizes[1] + 2))
  refine w_cons (w_set 2 sc__law_late_right.nd rfl (.inr rfl) (.inl rfl) ?_)
  refine w_listRg1 rfl T.b_list T.b_range ?_
  refine w_bin ?_
  refine w_bin ?_
  refine w_ix ?_
  refine w_name 1 rfl (.inl rfl) rfl ?_
  refine w_int ?_
  first | refine ix_tupD 0 rfl rfl ?_ | refine ix_lstD 0 rfl rfl ?_ | refine ix_tupD 0 rfl (by assumption) ?_ | refine ix_lstD 0 rfl (by assumption) ?_ | refine ix_ptrD 0 rfl 0 rfl rfl ?_ | refine ix_ptrD 1 rfl 0 rfl rfl ?_ | refine ix_ptrD 2 rfl 0 rfl rfl ?_
  refine w_ix ?_
  refine w_name 1 rfl (.inl rfl) rfl ?_
  refine w_int ?_
  first | refine ix_tupD 1 rfl rfl ?_ | refine ix_lstD 1 rfl rfl ?_ | refine ix_tupD 1 rfl (by assumption) ?_ | refine ix_lstD 1 rfl (by assumption) ?_ | refine ix_ptrD 0 rfl 1 rfl rfl ?_ | refine ix_ptrD 1 rfl 1 rfl rfl ?_ | refine ix_ptrD 2 rfl 1 rfl rfl ?_
  refine o_addN ?_
  refine w_int ?_
  refine o_addN (b := 2) ?_
  refine ⟨((n1 + n2 + 2 : Nat) : Int), rfl, by omega, fun pl => ?_⟩
  rw [Int.toNat_natCast, rng_nats]
  -- _law_names = [_law_left.pop(_law_take(_law_pen, len(_law_left))) for _law_k in range(_law_sizes[0] + _law_sizes[1] + 2)]
  refine w_cons (w_setLc (own := [("_law_k", 4)]) 3 (.one 4) (by decide) rfl sc__law_late_right.nd rfl rfl (blkOk_by (N := N__law_late_right) (sc := defScope s__law_late_right) (by decide +kernel)) (sw_true rfl rfl rfl (by decide +kernel)) (fun _ _ _ _ _ => pg_name (i := 4) sc__law_late_right.nd rfl (by first | exact .inl rfl | exact .inr rfl)) ?_)
  refine lcW_of ?_
  refine wi_rngN T.b_range ?_
  refine w_bin ?_
  refine w_bin ?_
  refine w_ix ?_
  refine w_name 1 rfl (.inl rfl) rfl ?_
  refine w_int ?_
  first | refine ix_tupD 0 rfl rfl ?_ | refine ix_lstD 0 rfl rfl ?_ | refine ix_tupD 0 rfl (by assumption) ?_ | refine ix_lstD 0 rfl (by assumption) ?_ | refine ix_ptrD 0 rfl 0 rfl rfl ?_ | refine ix_ptrD 1 rfl 0 rfl rfl ?_ | refine ix_ptrD 2 rfl 0 rfl rfl ?_
  refine w_ix ?_
  refine w_name 1 rfl (.inl rfl) rfl ?_
  refine w_int ?_
  first | refine ix_tupD 1 rfl rfl ?_ | refine ix_lstD 1 rfl rfl ?_ | refine ix_tupD 1 rfl (by assumption) ?_ | refine ix_lstD 1 rfl (by assumption) ?_ | refine ix_ptrD 0 rfl 1 rfl rfl ?_ | refine ix_ptrD 1 rfl 1 rfl rfl ?_ | refine ix_ptrD 2 rfl 1 rfl rfl ?_
  refine o_addN ?_
  refine w_int ?_
  refine o_addN (b := 2) ?_
  refine ⟨_, by rfl, by omega, ?_⟩
  refine ⟨by rw [nats_len]; omega, fun i acc μ2 => ∃ (l left : List Nat) (c : Nat), (l ++ left).Perm (List.range (n1 + n2 + 2)) ∧ l.length = i ∧ c ≤ n + 1 + i ∧ acc = l.map (fun a : Nat => D.int a) ∧ μ2 = (pl, .lst (left.map fun a : Nat => D.int a)) :: μ.set ip (qp, penO ns c), ⟨[], List.range (n1 + n2 + 2), n + 1, List.Perm.refl _, rfl, by omega, rfl, rfl⟩, ?_, ?_⟩
  · rintro p2 i x acc μ2 hx ⟨l, left, c, hp, hl, hc, rfl, rfl⟩
    obtain ⟨hi, rfl⟩ := nats_get hx
    have hlen := hp.length_eq
    rw [List.length_append, List.length_range] at hlen
    refine ⟨_, rfl, fun _ _ _ _ _ => ?_⟩
    refine ⟨fun _ _ _ _ _ _ => ?_, fun hb => (nomatch hb)⟩
    refine w_popAt ?_
    refine w_name 2 rfl (.inr (.inl rfl)) rfl ?_
    first | refine ⟨.inl ⟨rfl, 0, _, rfl⟩, ?_⟩ | refine ⟨.inl ⟨rfl, 1, _, rfl⟩, ?_⟩ | refine ⟨.inl ⟨rfl, 2, _, rfl⟩, ?_⟩ | refine ⟨.inl ⟨rfl, 3, _, rfl⟩, ?_⟩ | refine ⟨rfl, ?_⟩
    refine wa_cons ?_
    refine w_callG G__law_take hr ?_
    refine wa_cons ?_
    refine w_name 0 rfl (.inr (.inl rfl)) rfl ?_
    refine wa_cons ?_
    refine w_callB (id := "len") T.b_len ?_
    refine wa_cons ?_
    refine w_name 2 rfl (.inr (.inl rfl)) rfl ?_
    refine wa_nil ?_
    refine c_lenP 1 rfl ?_
    rw [List.length_map]
    refine wa_nil ?_
    refine ⟨_, _, _, _, _, rfl, by walk_at "pen", by omega, by omega, fun r2 μ2 hr2 e2 => ?_⟩
    try simp only [List.set_cons_succ, List.set_set, List.set_cons_zero] at e2
    subst e2
    refine wa_nil ?_
    obtain ⟨v, hv, _⟩ := get_of_lt (show r2 < left.length by omega)
    refine m_popAt 1 rfl r2 (map_at hv) (by rw [List.length_map]; omega) ?_
    rw [Oc.map_eraseIdx]
    refine ⟨_, rfl, ?_⟩
    exact ⟨l ++ [v], left.eraseIdx r2, c + 1, perm_erase9 hp hv, by rw [List.length_append, hl]; rfl, by omega, by rw [List.map_append]; rfl, rfl⟩
  rintro p2 acc μ2 ⟨names, left, c, hp, hl, hc, rfl, rfl⟩
  rw [nats_len] at hl hc
  have hlen := hp.length_eq
  rw [List.length_append, List.length_range] at hlen
  obtain rfl : left = [] := List.eq_nil_of_length_eq_zero (by omega)
  rw [List.append_nil] at hp
  refine ⟨_, _, _, rfl, rfl, .inl ?_⟩
  refine wSs_sub (List.sublist_cons_self _ _) ?_
  obtain ⟨A, B, rest, rfl⟩ : ∃ A B rest, names = A :: B :: rest := by
    match names, hl with
    | a :: b :: r, _ => exact ⟨a, b, r, rfl⟩
  have hrest : rest.length = n1 + n2 := by have h9 : rest.length + 1 + 1 = n1 + n2 + 2 := hl; omega
  obtain ⟨R, hR⟩ : ∃ R, R = rest.take n1 := ⟨_, rfl⟩
  obtain ⟨S, hS⟩ : ∃ S, S = rest.drop n1 := ⟨_, rfl⟩
  have hRl : R.length = n1 := by rw [hR, List.length_take]; omega
  have hSl : S.length = n2 := by rw [hS, List.length_drop]; omega
  have hN : LateN A B R S (n1 + n2 + 2) := ⟨by rw [hR, hS, List.take_append_drop]; exact hp⟩
  -- _law_rings_here = [_law_names[2:2 + _law_sizes[0]], _law_names[2 + _law_sizes[0]:]]
  refine w_cons (w_set 5 sc__law_late_right.nd rfl (.inl rfl) (.inl rfl) ?_)
  refine w_lst ?_
  refine wa_cons ?_
  refine w_sl ?_
  refine w_name 3 rfl (.inl rfl) rfl ?_
  refine wo_some ?_
  refine w_int ?_
  refine ⟨_, rfl, ?_⟩
  refine wo_some ?_
  refine w_bin ?_
  refine w_int ?_
  refine w_ix ?_
  refine w_name 1 rfl (.inl rfl) rfl ?_
  refine w_int ?_
  first | refine ix_tupD 0 rfl rfl ?_ | refine ix_lstD 0 rfl rfl ?_ | refine ix_tupD 0 rfl (by assumption) ?_ | refine ix_lstD 0 rfl (by assumption) ?_ | refine ix_ptrD 0 rfl 0 rfl rfl ?_ | refine ix_ptrD 1 rfl 0 rfl rfl ?_ | refine ix_ptrD 2 rfl 0 rfl rfl ?_
  refine o_addN (a := 2) ?_
  refine ⟨_, rfl, ?_⟩
  refine sd_lst ?_
  rw [show cutD ((A :: B :: rest).map fun a : Nat => D.int a) (some 2) (some ((2 + n1 : Nat) : Int)) = R.map (fun a : Nat => D.int a) from by
    have e := cutD_fromTo ((A :: B :: rest).map fun a : Nat => D.int a) 2 (2 + n1) (by rw [List.length_map]; show 2 ≤ rest.length + 1 + 1; omega) (by rw [List.length_map]; show 2 + n1 ≤ rest.length + 1 + 1; omega)
    refine Eq.trans e ?_
    rw [← List.map_drop, ← List.map_take, show 2 + n1 - 2 = n1 by omega, hR]
    rfl]
  refine wa_cons ?_
  refine w_sl ?_
  refine w_name 3 rfl (.inl rfl) rfl ?_
  refine wo_some ?_
  refine w_bin ?_
  refine w_int ?_
  refine w_ix ?_
  refine w_name 1 rfl (.inl rfl) rfl ?_
  refine w_int ?_
  first | refine ix_tupD 0 rfl rfl ?_ | refine ix_lstD 0 rfl rfl ?_ | refine ix_tupD 0 rfl (by assumption) ?_ | refine ix_lstD 0 rfl (by assumption) ?_ | refine ix_ptrD 0 rfl 0 rfl rfl ?_ | refine ix_ptrD 1 rfl 0 rfl rfl ?_ | refine ix_ptrD 2 rfl 0 rfl rfl ?_
  refine o_addN (a := 2) ?_
  refine ⟨_, rfl, ?_⟩
  refine wo_none ?_
  refine sd_lst ?_
  rw [cutD_from, ← List.map_drop, show (A :: B :: rest).drop (2 + n1) = S from by rw [hS, show 2 + n1 = n1 + 1 + 1 by omega]; rfl]
  refine wa_nil ?_
  refine ⟨by simp, ?_⟩
  -- _law_spots = [_law_take(_law_pen, _law_sizes[0]), _law_take(_law_pen, _law_sizes[1])]
  refine w_cons (w_set 6 sc__law_late_right.nd rfl (.inl rfl) (.inl rfl) ?_)
  refine w_lst ?_
  refine wa_cons ?_
  refine w_callG G__law_take hr ?_
  refine wa_cons ?_
  refine w_name 0 rfl (.inr (.inl rfl)) rfl ?_
  refine wa_cons ?_
  refine w_ix ?_
  refine w_name 1 rfl (.inl rfl) rfl ?_
  refine w_int ?_
  first | refine ix_tupD 0 rfl rfl ?_ | refine ix_lstD 0 rfl rfl ?_ | refine ix_tupD 0 rfl (by assumption) ?_ | refine ix_lstD 0 rfl (by assumption) ?_ | refine ix_ptrD 0 rfl 0 rfl rfl ?_ | refine ix_ptrD 1 rfl 0 rfl rfl ?_ | refine ix_ptrD 2 rfl 0 rfl rfl ?_
  refine wa_nil ?_
  refine ⟨_, _, _, _, _, rfl, by walk_at "pen", by omega, by omega, fun r3 μ3 hr3 e3 => ?_⟩
  try simp only [List.set_cons_succ, List.set_set, List.set_cons_zero] at e3
  subst e3
  refine wa_cons ?_
  refine w_callG G__law_take hr ?_
  refine wa_cons ?_
  refine w_name 0 rfl (.inr (.inl rfl)) rfl ?_
  refine wa_cons ?_
  refine w_ix ?_
  refine w_name 1 rfl (.inl rfl) rfl ?_
  refine w_int ?_
  first | refine ix_tupD 1 rfl rfl ?_ | refine ix_lstD 1 rfl rfl ?_ | refine ix_tupD 1 rfl (by assumption) ?_ | refine ix_lstD 1 rfl (by assumption) ?_ | refine ix_ptrD 0 rfl 1 rfl rfl ?_ | refine ix_ptrD 1 rfl 1 rfl rfl ?_ | refine ix_ptrD 2 rfl 1 rfl rfl ?_
  refine wa_nil ?_
  refine ⟨_, _, _, _, _, rfl, by walk_at "pen", by omega, by omega, fun r4 μ4 hr4 e4 => ?_⟩
  try simp only [List.set_cons_succ, List.set_set, List.set_cons_zero] at e4
  subst e4
  refine wa_nil ?_
  refine ⟨by simp, ?_⟩
  -- _law_far_here = 61 + _law_take(_law_pen, _law_sizes[0] * _law_sizes[1] - 61)
  refine w_cons (w_set 7 sc__law_late_right.nd rfl (.inl rfl) (.inl rfl) ?_)
  refine w_bin ?_
  refine w_int ?_
  refine w_callG G__law_take hr ?_
  refine wa_cons ?_
  refine w_name 0 rfl (.inr (.inl rfl)) rfl ?_
  refine wa_cons ?_
  refine w_bin ?_
  refine w_bin ?_
  refine w_ix ?_
  refine w_name 1 rfl (.inl rfl) rfl ?_
  refine w_int ?_
  first | refine ix_tupD 0 rfl rfl ?_ | refine ix_lstD 0 rfl rfl ?_ | refine ix_tupD 0 rfl (by assumption) ?_ | refine ix_lstD 0 rfl (by assumption) ?_ | refine ix_ptrD 0 rfl 0 rfl rfl ?_ | refine ix_ptrD 1 rfl 0 rfl rfl ?_ | refine ix_ptrD 2 rfl 0 rfl rfl ?_
  refine w_ix ?_
  refine w_name 1 rfl (.inl rfl) rfl ?_
  refine w_int ?_
  first | refine ix_tupD 1 rfl rfl ?_ | refine ix_lstD 1 rfl rfl ?_ | refine ix_tupD 1 rfl (by assumption) ?_ | refine ix_lstD 1 rfl (by assumption) ?_ | refine ix_ptrD 0 rfl 1 rfl rfl ?_ | refine ix_ptrD 1 rfl 1 rfl rfl ?_ | refine ix_ptrD 2 rfl 1 rfl rfl ?_
  refine o_mul (by omega) ?_
  rw [show ((n1 : Nat) : Int) * ((n2 : Nat) : Int) = ((n1 * n2 : Nat) : Int) from rfl]
  refine w_int ?_
  refine o_sub ?_
  refine wa_nil ?_
  refine ⟨_, _, _, _, _, rfl, by walk_at "pen", by omega, by omega, fun r5 μ5 hr5 e5 => ?_⟩
  try simp only [List.set_cons_succ, List.set_set, List.set_cons_zero] at e5
  subst e5
  first | refine o_addN (a := 61) ?_ | walk_at "Add"
  obtain ⟨far, hfar⟩ : ∃ far, far = 61 + r5 := ⟨_, rfl⟩
  rw [← hfar]
  have hf2 : far < n1 * n2 := by omega
  obtain ⟨f, hf⟩ : ∃ f, f = lateRoom A B R S r3 r4 := ⟨_, rfl⟩
  -- _law_cells = {_law_names[0]: ((None, None), (None, 0)), _law_names[1]: ((None, None), (None, 1))}
  refine w_cons (w_set 8 sc__law_late_right.nd rfl (.inr rfl) (.inl rfl) ?_)
  refine w_disp (by decide) (by decide) (by decide) (by decide) fun q => ?_
  refine w_ix ?_
  refine w_name 3 rfl (.inl rfl) rfl ?_
  refine w_int ?_
  refine ix_lstD 0 rfl rfl ?_
  refine w_tup ?_
  refine wa_cons ?_
  refine w_tup ?_
  refine wa_cons ?_
  refine w_non ?_
  refine wa_cons ?_
  refine w_non ?_
  refine wa_nil ?_
  refine ⟨by simp, ?_⟩
  refine wa_cons ?_
  refine w_tup ?_
  refine wa_cons ?_
  refine w_non ?_
  refine wa_cons ?_
  refine w_int ?_
  refine wa_nil ?_
  refine ⟨by simp, ?_⟩
  refine wa_nil ?_
  refine ⟨by simp, ?_⟩
  refine w_ix ?_
  refine w_name 3 rfl (.inl rfl) rfl ?_
  refine w_int ?_
  refine ix_lstD 1 rfl rfl ?_
  refine w_tup ?_
  refine wa_cons ?_
  refine w_tup ?_
  refine wa_cons ?_
  refine w_non ?_
  refine wa_cons ?_
  refine w_non ?_
  refine wa_nil ?_
  refine ⟨by simp, ?_⟩
  refine wa_cons ?_
  refine w_tup ?_
  refine wa_cons ?_
  refine w_non ?_
  refine wa_cons ?_
  refine w_int ?_
  refine wa_nil ?_
  refine ⟨by simp, ?_⟩
  refine wa_nil ?_
  refine ⟨by simp, ?_⟩
  refine ⟨[(ik A, roomD (f A)), (ik B, roomD (f B))], _, by rw [hf, lr_A, lr_B hN]; rfl, by show 2 ≤ 15; decide, rfl, ?_⟩
  rw [merge_two hN.nd.1]
  -- for _law_which in range(2):
  refine w_cons (w_forV [9, 4, 10, 11] ?_ PassesOwn.never rfl)
  refine wi_rngN T.b_range ?_
  refine w_int ?_
  refine ⟨2, by rfl, by omega, ?_⟩
  refine ⟨_, fun i vs μ' => ∃ (ds : Kds) (w9 w4 w10 w11 : Option D), (DKn A B R S f ds i 0) ∧ vs = [w9, w4, w10, w11] ∧ (q, .dk ds) :: μ.set ip (qp, penO ns (c + 1 + 1 + 1)) = μ', (by first | exact nats_len | exact nats2_len | exact enumD_len.trans (List.length_map _) | exact enumD_len | exact List.length_map _ | exact rfl | simp), ⟨_, _, _, _, _, ⟨by rw [valD_pos], by rw [valD_neg (fun e => hN.nd.1 (ik_inj e)), valD_pos], fun t' i' X h1 h2 h3 => by omega, by show 2 ≤ 2 + 30 * 0 + 0; decide⟩, rfl, rfl⟩, ?_, ?_⟩
  · rintro which x vs μ' hx ⟨ds, w9, w4, w10, w11, hds, rfl, rfl⟩
    refine wG_rho (ρ' := [_, _, _, _, _, _, _, _, _, _, _, _, _, _, _, _, _]) rfl ?_
    obtain ⟨hwhich, rfl⟩ := nats_get hx
    obtain ⟨X, sp, T9, hX, x1, x2, x3, x4, hXl, hsp, hfX⟩ : ∃ (X : List Nat) (sp T9 : Nat), [R, S][which]? = some X ∧ [natsL R, natsL S][which]? = some (natsL X) ∧ [D.int (r3 : Nat), D.int (r4 : Nat)][which]? = some (.int sp) ∧ ((A :: B :: rest).map fun a : Nat => D.int a)[which]? = some (.int T9) ∧ [D.int (n1 : Nat), D.int (n2 : Nat)][which]? = some (.int (X.length : Nat)) ∧ (9 ≤ X.length ∧ X.length ≤ 13) ∧ sp < X.length ∧ ∀ k, k < X.length → f (X.getD k 0) = ringRoom X sp T9 k := by
      match which, hwhich with
      | 0, _ => exact ⟨R, r3, A, rfl, rfl, rfl, rfl, by rw [hRl]; rfl, by omega, by omega, fun k hk => by rw [hf]; exact lr_R hN hk⟩
      | 1, _ => exact ⟨S, r4, B, rfl, rfl, rfl, rfl, by rw [hSl]; rfl, by omega, by omega, fun k hk => by rw [hf]; exact lr_S hN hk⟩
    refine wg_name 9 sc__law_late_right.nd rfl (.inl rfl) (.inl rfl) ?_
    -- for _law_k, _law_room in enumerate(_law_rings_here[_law_which]):
    refine w_cons (w_forV [4, 10, 11] ?_ PassesOwn.never rfl)
    refine wi_enumL T.b_enumerate ?_
    refine w_ix ?_
    refine w_name 5 rfl (.inl rfl) rfl ?_
    refine w_name 9 rfl (.inl rfl) rfl ?_
    refine ix_lstD which rfl x1 ?_
    refine ⟨_, rfl, ?_⟩
    refine ⟨_, fun i vs μ' => ∃ (ds2 : Kds) (w4 w10 w11 : Option D), (DKn A B R S f ds2 which i) ∧ vs = [w4, w10, w11] ∧ (q, .dk ds2) :: μ.set ip (qp, penO ns (c + 1 + 1 + 1)) = μ', (by first | exact nats_len | exact nats2_len | exact enumD_len.trans (List.length_map _) | exact enumD_len | exact List.length_map _ | exact rfl | simp), ⟨ds, _, _, _, hds, rfl, rfl⟩, ?_, ?_⟩
    · rintro k x vs μ' hx ⟨ds2, w4, w10, w11, hds2, rfl, rfl⟩
      refine wG_rho (ρ' := [_, _, _, _, _, _, _, _, _, _, _, _, _, _, _, _, _]) rfl ?_
      obtain ⟨y, hy, rfl⟩ := enumD_get hx
      obtain ⟨z, hz, rfl⟩ := map_get hy
      have hkX : k < X.length := (List.getElem?_eq_some_iff.mp hz).1
      have hzg : z = X.getD k 0 := by rw [List.getD_eq_getElem?_getD, hz]; rfl
      subst hzg
      first | refine wg_tup rfl rfl ?_ | refine wg_lst rfl rfl ?_
      refine wgs_cons ?_
      refine wg_name 4 sc__law_late_right.nd rfl (.inl rfl) (.inl rfl) ?_
      refine wgs_cons ?_
      refine wg_name 10 sc__law_late_right.nd rfl (.inl rfl) (.inl rfl) ?_
      refine wgs_nil ?_
      -- _law_goes = [None, _law_names[_law_which]][int(_law_k == _law_spots[_law_which])]
      refine w_cons (w_set 11 sc__law_late_right.nd rfl (.inl rfl) (.inl rfl) ?_)
      refine w_ix ?_
      refine w_lst ?_
      refine wa_cons ?_
      refine w_non ?_
      refine wa_cons ?_
      refine w_ix ?_
      refine w_name 3 rfl (.inl rfl) rfl ?_
      refine w_name 9 rfl (.inl rfl) rfl ?_
      refine ix_lstD which rfl x3 ?_
      refine wa_nil ?_
      refine ⟨by simp, ?_⟩
      refine w_callTy (T := "int") T.b_int ?_
      refine wa_cons ?_
      refine w_cmp ?_
      refine w_name 4 rfl (.inl rfl) rfl ?_
      refine w_ix ?_
      refine w_name 6 rfl (.inl rfl) rfl ?_
      refine w_name 9 rfl (.inl rfl) rfl ?_
      refine ix_lstD which rfl x2 ?_
      walk_at "Eq"
      refine wa_nil ?_
      walk_at "c_int"
      rw [if_eqf]
      refine ix_lstD (if k = sp then 1 else 0) rfl (d := optD (if k = sp then some T9 else none)) (by split <;> rfl) ?_
      -- _law_cells[_law_room] = ((_law_rings_here[_law_which][(_law_k + 1) % _law_sizes[_law_which]], None), (_law_goes, None))
      refine w_cons (w_dput hu ?_)
      refine w_tup ?_
      refine wa_cons ?_
      refine w_tup ?_
      refine wa_cons ?_
      refine w_ix ?_
      refine w_ix ?_
      refine w_name 5 rfl (.inl rfl) rfl ?_
      refine w_name 9 rfl (.inl rfl) rfl ?_
      refine ix_lstD which rfl x1 ?_
      refine w_bin ?_
      refine w_bin ?_
      refine w_name 4 rfl (.inl rfl) rfl ?_
      refine w_int ?_
      first | refine o_addN (b := 1) ?_ | walk_at "Add"
      refine w_ix ?_
      refine w_name 1 rfl (.inl rfl) rfl ?_
      refine w_name 9 rfl (.inl rfl) rfl ?_
      refine ix_tupD which rfl x4 ?_
      refine o_modN (by omega) ?_
      refine ix_lstD ((k + 1) % X.length) rfl (natsL_get (Nat.mod_lt _ (by omega))) ?_
      refine wa_cons ?_
      refine w_non ?_
      refine wa_nil ?_
      refine ⟨by simp, ?_⟩
      refine wa_cons ?_
      refine w_tup ?_
      refine wa_cons ?_
      refine w_name 11 rfl (.inl rfl) rfl ?_
      refine wa_cons ?_
      refine w_non ?_
      refine wa_nil ?_
      refine ⟨by simp, ?_⟩
      refine wa_nil ?_
      refine ⟨by simp, ?_⟩
      refine w_name 8 rfl (.inr (.inl rfl)) rfl ?_
      refine w_name 10 rfl (.inl rfl) rfl ?_
      have hln := hds2.ln
      have hroomE : D.tup [.tup [.int (X.getD ((k + 1) % X.length) 0 : Nat), .non], .tup [optD (if k = sp then some T9 else none), .non]] = roomD (f (X.getD k 0)) := by rw [hfX k hkX]; rfl
      refine ⟨q, 0, _, ik (X.getD k 0), rfl, rfl, rfl, by omega, ?_⟩
      rw [hroomE]
      refine w_nil ?_
      exact ⟨[_, _, _], rfl, ⟨putD ds2 (ik (X.getD k 0)) (roomD (f (X.getD k 0))), _, _, _, hds2.put hX, rfl, rfl⟩⟩
    rintro vs μ' ⟨ds2, w4, w10, w11, hds2, rfl, rfl⟩
    refine wSs_rho (ρ' := [_, _, _, _, _, _, _, _, _, _, _, _, _, _, _, _, _]) rfl ?_
    refine w_nil ?_
    exact ⟨[_, _, _, _], rfl, ⟨ds2, _, _, _, _, hds2.next hX (by first | rfl | rw [enumD_len, List.length_map]) (by first | omega | (rw [enumD_len, List.length_map]; omega)), rfl, rfl⟩⟩
  rintro vs μ' ⟨ds, w9, w4, w10, w11, hds, rfl, rfl⟩
  refine wSs_rho (ρ' := [_, _, _, _, _, _, _, _, _, _, _, _, _, _, _, _, _]) rfl ?_
  have hds : DKn A B R S f ds 2 0 := hds
  have hall : ∀ x, x < n1 + n2 + 2 → valD ds (ik x) = some (roomD (f x)) := fun x hx => hds.all hN hx
  have hln := hds.ln
  have hMok : (mkM (n1 + n2 + 2) f).Ok 24 := mk_ok (by omega) hn3 fun x hx => by rw [hf]; exact late_cOk hN (by omega) (by omega) hx
  have hM : LateM (mkM (n1 + n2 + 2) f) A B R S r3 r4 := by rw [hf]; exact late_M hN (by omega) (by omega)
  -- _law_machine_here = (2, tuple([_law_cells[_law_room] for _law_room in sorted(_law_names)]))
  refine w_cons (w_set 12 sc__law_late_right.nd rfl (.inl rfl) (.inl rfl) ?_)
  refine w_tup ?_
  refine wa_cons ?_
  refine w_int ?_
  refine wa_cons ?_
  refine w_callTy (T := "tuple") T.b_tuple ?_
  refine wa_cons ?_
  -- comp [_law_cells[_law_room] for _law_room in sorted(_law_names)]
  refine w_fz0 (w_lcM (own := [("_law_room", 10)]) (.one 10) (by decide) rfl sc__law_late_right.nd (blkOk_by (N := N__law_late_right) (sc := defScope s__law_late_right) (by decide +kernel)) (fun _ _ _ _ _ => pg_name (i := 10) sc__law_late_right.nd rfl (by first | exact .inl rfl | exact .inr rfl)) ?_)
  refine lcW_of ?_
  refine wi_lst ?_
  refine w_callB (id := "sorted") T.b_sorted ?_
  refine wa_cons ?_
  refine w_name 3 rfl (.inl rfl) rfl ?_
  refine wa_nil ?_
  refine c_sortedI (ns := (A :: B :: rest).map fun a : Nat => (a : Int)) (.inl (by rw [List.map_map]; rfl)) fun ns' hp' hs' => ?_
  rw [sorted_range hp hp' hs', List.map_map]
  refine ⟨_, rfl, ?_⟩
  refine lcq_map ((List.range (n1 + n2 + 2))) _ ((fun x => roomD (f x))) rfl (by first | omega | (simp only [List.length_map, List.length_range]; omega) | (simp; omega)) ?_ ?_
  · intro p_room iroom room hroom
    refine ⟨[_, _, _, _, _, _, _, _, _, _, _, _, _, _, _, _, _], rfl, fun _ _ _ _ _ => ?_⟩
    refine w_dget hu ?_
    refine w_name 8 rfl (.inr (.inl rfl)) rfl ?_
    refine w_name 10 rfl (.inl rfl) rfl ?_
    refine ⟨q, 1, _, ik room, _, rfl, rfl, rfl, hall room (List.mem_range.mp (List.mem_of_getElem? hroom)), ?_⟩
    exact ⟨rfl, rfl⟩
  intro p_c
  refine ⟨_, _, _, rfl, rfl, ?_⟩
  refine wa_nil ?_
  walk_at "c_tuple"
  refine wa_nil ?_
  refine ⟨by simp, ?_⟩
  rw [mk_D]
  -- _law_one = _law_rings_here[0][(_law_spots[0] - _law_far_here) % _law_sizes[0]]
  refine w_cons (w_set 13 sc__law_late_right.nd rfl (.inl rfl) (.inl rfl) ?_)
  refine w_ix ?_
  refine w_ix ?_
  refine w_name 5 rfl (.inl rfl) rfl ?_
  refine w_int ?_
  first | refine ix_tupD 0 rfl rfl ?_ | refine ix_lstD 0 rfl rfl ?_ | refine ix_tupD 0 rfl (by assumption) ?_ | refine ix_lstD 0 rfl (by assumption) ?_ | refine ix_ptrD 0 rfl 0 rfl rfl ?_ | refine ix_ptrD 1 rfl 0 rfl rfl ?_ | refine ix_ptrD 2 rfl 0 rfl rfl ?_
  refine w_bin ?_
  refine w_bin ?_
  refine w_ix ?_
  refine w_name 6 rfl (.inl rfl) rfl ?_
  refine w_int ?_
  first | refine ix_tupD 0 rfl rfl ?_ | refine ix_lstD 0 rfl rfl ?_ | refine ix_tupD 0 rfl (by assumption) ?_ | refine ix_lstD 0 rfl (by assumption) ?_ | refine ix_ptrD 0 rfl 0 rfl rfl ?_ | refine ix_ptrD 1 rfl 0 rfl rfl ?_ | refine ix_ptrD 2 rfl 0 rfl rfl ?_
  refine w_name 7 rfl (.inl rfl) rfl ?_
  walk_at "Sub"
  refine w_ix ?_
  refine w_name 1 rfl (.inl rfl) rfl ?_
  refine w_int ?_
  first | refine ix_tupD 0 rfl rfl ?_ | refine ix_lstD 0 rfl rfl ?_ | refine ix_tupD 0 rfl (by assumption) ?_ | refine ix_lstD 0 rfl (by assumption) ?_ | refine ix_ptrD 0 rfl 0 rfl rfl ?_ | refine ix_ptrD 1 rfl 0 rfl rfl ?_ | refine ix_ptrD 2 rfl 0 rfl rfl ?_
  walk_at "Mod"
  obtain ⟨i0, hi0, hi1, hi2⟩ := back (far := far) (show n1 = 9 ∨ n1 = 10 ∨ n1 = 11 ∨ n1 = 13 by omega) (show r3 < n1 by omega)
  rw [hi0]
  refine ix_lstD i0 rfl (natsL_get (by omega)) ?_
  -- _law_other = _law_rings_here[1][(_law_spots[1] - _law_far_here) % _law_sizes[1]]
  refine w_cons (w_set 14 sc__law_late_right.nd rfl (.inl rfl) (.inl rfl) ?_)
  refine w_ix ?_
  refine w_ix ?_
  refine w_name 5 rfl (.inl rfl) rfl ?_
  refine w_int ?_
  first | refine ix_tupD 1 rfl rfl ?_ | refine ix_lstD 1 rfl rfl ?_ | refine ix_tupD 1 rfl (by assumption) ?_ | refine ix_lstD 1 rfl (by assumption) ?_ | refine ix_ptrD 0 rfl 1 rfl rfl ?_ | refine ix_ptrD 1 rfl 1 rfl rfl ?_ | refine ix_ptrD 2 rfl 1 rfl rfl ?_
  refine w_bin ?_
  refine w_bin ?_
  refine w_ix ?_
  refine w_name 6 rfl (.inl rfl) rfl ?_
  refine w_int ?_
  first | refine ix_tupD 1 rfl rfl ?_ | refine ix_lstD 1 rfl rfl ?_ | refine ix_tupD 1 rfl (by assumption) ?_ | refine ix_lstD 1 rfl (by assumption) ?_ | refine ix_ptrD 0 rfl 1 rfl rfl ?_ | refine ix_ptrD 1 rfl 1 rfl rfl ?_ | refine ix_ptrD 2 rfl 1 rfl rfl ?_
  refine w_name 7 rfl (.inl rfl) rfl ?_
  walk_at "Sub"
  refine w_ix ?_
  refine w_name 1 rfl (.inl rfl) rfl ?_
  refine w_int ?_
  first | refine ix_tupD 1 rfl rfl ?_ | refine ix_lstD 1 rfl rfl ?_ | refine ix_tupD 1 rfl (by assumption) ?_ | refine ix_lstD 1 rfl (by assumption) ?_ | refine ix_ptrD 0 rfl 1 rfl rfl ?_ | refine ix_ptrD 1 rfl 1 rfl rfl ?_ | refine ix_ptrD 2 rfl 1 rfl rfl ?_
  walk_at "Mod"
  obtain ⟨j0, hj0, hj1, hj2⟩ := back (far := far) (show n2 = 9 ∨ n2 = 10 ∨ n2 = 11 ∨ n2 = 13 by omega) (show r4 < n2 by omega)
  rw [hj0]
  refine ix_lstD j0 rfl (natsL_get (by omega)) ?_
  -- _law_row = parting(_law_machine_here, _law_one, _law_other)
  refine w_cons (w_set 15 sc__law_late_right.nd rfl (.inl rfl) (.inl rfl) ?_)
  refine w_callG G_parting hr ?_
  refine wa_cons ?_
  refine w_name 12 rfl (.inl rfl) rfl ?_
  refine wa_cons ?_
  refine w_name 13 rfl (.inl rfl) rfl ?_
  refine wa_cons ?_
  refine w_name 14 rfl (.inl rfl) rfl ?_
  refine wa_nil ?_
  obtain ⟨l1, l2, l3, l4⟩ := hN.lt
  have hin : PIn (mkM (n1 + n2 + 2) f) (R.getD i0 0, S.getD j0 0) := ⟨by rw [mk_len]; exact l3 _ (getD_mem (by omega)), by rw [mk_len]; exact l4 _ (getD_mem (by omega))⟩
  refine ⟨mkM (n1 + n2 + 2) f, 24, _, _, rfl, hMok, by decide, hin, fun res hres => ?_⟩
  obtain rfl := res_uniq hres (late_res hM (show i0 < R.length by omega) (show j0 < S.length by omega) (by rw [hRl]; exact hi2) (by rw [hSl]; exact hj2) (by rw [hRl, hSl]; exact late_sizes hn12 (by omega) (by omega) hf2 hi2 hj2 hi1 hj1) (show far ≤ 10000 by omega))
  have hrl : (lateRow far).length = far + 2 := by unfold lateRow; rw [List.length_append, List.length_replicate]; rfl
  -- if repr(_law_row) != repr((0,) * _law_far_here + (1, 1)) or not _law_said(_law_machine_here, _law_one, _law_other, _law_row):
  refine w_cons (w_if ?_)
  refine wt_b (false) ?_ ?_
  · refine wt_w ?_
    refine ww_or ?_
    refine wt_cmp ?_
    refine w_callB (id := "repr") T.b_repr ?_
    refine wa_cons ?_
    refine w_name 15 rfl (.inl rfl) rfl ?_
    refine wa_nil ?_
    refine c_reprT _ hr (shw_ro _ _) (tm_late (by omega)) ?_
    refine w_callB (id := "repr") T.b_repr ?_
    refine wa_cons ?_
    refine w_bin ?_
    refine w_bin ?_
    refine w_tup ?_
    refine wa_cons ?_
    refine w_int ?_
    refine wa_nil ?_
    refine ⟨by simp, ?_⟩
    refine w_name 7 rfl (.inl rfl) rfl ?_
    refine o_repT (k := (far : Nat)) ⟨by omega, by omega⟩ (by simp) (by show 1 ≤ 1000; decide) ?_
    refine w_tup ?_
    refine wa_cons ?_
    refine w_int ?_
    refine wa_cons ?_
    refine w_int ?_
    refine wa_nil ?_
    refine ⟨by simp, ?_⟩
    refine o_addT (by rw [Int.toNat_natCast, List.flatten_replicate_singleton, List.length_replicate]; show far + 2 ≤ _; omega) ?_
    first | rw [lateRow_D] | rw [lateRow_D2]
    refine wa_nil ?_
    refine c_reprT _ hr (shw_ro _ (some (lateRow far))) (tm_late (by omega)) ?_
    refine o_ne rfl ?_
    refine ⟨_, rfl, ?_⟩
    refine ⟨fun hb0 => ?_, fun hb0 => ⟨(by simp [D.eqf] at hb0), rfl⟩⟩
    refine ww_or1 ?_
    refine wt_not ?_
    refine wt_val ?_
    refine w_callG G__law_said hr ?_
    refine wa_cons ?_
    refine w_name 12 rfl (.inl rfl) rfl ?_
    refine wa_cons ?_
    refine w_name 13 rfl (.inl rfl) rfl ?_
    refine wa_cons ?_
    refine w_name 14 rfl (.inl rfl) rfl ?_
    refine wa_cons ?_
    refine w_name 15 rfl (.inl rfl) rfl ?_
    refine wa_nil ?_
    refine ⟨mkM (n1 + n2 + 2) f, 24, _, _, lateRow far, rfl, hMok, by decide, hin, hres.1.1, hres.2, ?_⟩
    refine ⟨_, rfl, ?_⟩
    exact ⟨(by rfl), rfl⟩
  refine ⟨fun hb => ?_, fun hb => ?_⟩
  · -- return False
    refine w_cons (w_ret ?_)
    refine w_bl ?_
    cases hb
  refine w_nil ?_
  -- _law_cells[_law_rings_here[0][_law_spots[0]]] = (_law_cells[_law_rings_here[0][_law_spots[0]]][0], (None, None))
  refine w_cons (w_dput hu ?_)
  refine w_tup ?_
  refine wa_cons ?_
  refine w_ix ?_
  refine w_dget hu ?_
  refine w_name 8 rfl (.inr (.inl rfl)) rfl ?_
  refine w_ix ?_
  refine w_ix ?_
  refine w_name 5 rfl (.inl rfl) rfl ?_
  refine w_int ?_
  first | refine ix_tupD 0 rfl rfl ?_ | refine ix_lstD 0 rfl rfl ?_ | refine ix_tupD 0 rfl (by assumption) ?_ | refine ix_lstD 0 rfl (by assumption) ?_ | refine ix_ptrD 0 rfl 0 rfl rfl ?_ | refine ix_ptrD 1 rfl 0 rfl rfl ?_ | refine ix_ptrD 2 rfl 0 rfl rfl ?_
  refine w_ix ?_
  refine w_name 6 rfl (.inl rfl) rfl ?_
  refine w_int ?_
  first | refine ix_tupD 0 rfl rfl ?_ | refine ix_lstD 0 rfl rfl ?_ | refine ix_tupD 0 rfl (by assumption) ?_ | refine ix_lstD 0 rfl (by assumption) ?_ | refine ix_ptrD 0 rfl 0 rfl rfl ?_ | refine ix_ptrD 1 rfl 0 rfl rfl ?_ | refine ix_ptrD 2 rfl 0 rfl rfl ?_
  refine ix_lstD r3 rfl (natsL_get (by omega)) ?_
  refine ⟨q, 0, _, ik (R.getD r3 0), _, rfl, rfl, rfl, hall _ (l3 _ (getD_mem (by omega))), ?_⟩
  rw [hf, lr_R hN (show r3 < R.length by omega), ← hf]
  refine w_int ?_
  refine ix_tupD 0 rfl rfl ?_
  refine wa_cons ?_
  refine w_tup ?_
  refine wa_cons ?_
  refine w_non ?_
  refine wa_cons ?_
  refine w_non ?_
  refine wa_nil ?_
  refine ⟨by simp, ?_⟩
  refine wa_nil ?_
  refine ⟨by simp, ?_⟩
  refine w_name 8 rfl (.inr (.inl rfl)) rfl ?_
  refine w_ix ?_
  refine w_ix ?_
  refine w_name 5 rfl (.inl rfl) rfl ?_
  refine w_int ?_
  first | refine ix_tupD 0 rfl rfl ?_ | refine ix_lstD 0 rfl rfl ?_ | refine ix_tupD 0 rfl (by assumption) ?_ | refine ix_lstD 0 rfl (by assumption) ?_ | refine ix_ptrD 0 rfl 0 rfl rfl ?_ | refine ix_ptrD 1 rfl 0 rfl rfl ?_ | refine ix_ptrD 2 rfl 0 rfl rfl ?_
  refine w_ix ?_
  refine w_name 6 rfl (.inl rfl) rfl ?_
  refine w_int ?_
  first | refine ix_tupD 0 rfl rfl ?_ | refine ix_lstD 0 rfl rfl ?_ | refine ix_tupD 0 rfl (by assumption) ?_ | refine ix_lstD 0 rfl (by assumption) ?_ | refine ix_ptrD 0 rfl 0 rfl rfl ?_ | refine ix_ptrD 1 rfl 0 rfl rfl ?_ | refine ix_ptrD 2 rfl 0 rfl rfl ?_
  refine ix_lstD r3 rfl (natsL_get (by omega)) ?_
  refine ⟨q, 0, _, ik (R.getD r3 0), rfl, rfl, rfl, by omega, ?_⟩
  obtain ⟨g, hg⟩ : ∃ g, g = bentRoom A B R S r3 r4 := ⟨_, rfl⟩
  simp only [List.set_cons_zero]
  -- _law_bent = (2, tuple([_law_cells[_law_room] for _law_room in sorted(_law_names)]))
  refine w_cons (w_set 16 sc__law_late_right.nd rfl (.inl rfl) (.inl rfl) ?_)
  refine w_tup ?_
  refine wa_cons ?_
  refine w_int ?_
  refine wa_cons ?_
  refine w_callTy (T := "tuple") T.b_tuple ?_
  refine wa_cons ?_
  -- comp [_law_cells[_law_room] for _law_room in sorted(_law_names)]
  refine w_fz0 (w_lcM (own := [("_law_room", 10)]) (.one 10) (by decide) rfl sc__law_late_right.nd (blkOk_by (N := N__law_late_right) (sc := defScope s__law_late_right) (by decide +kernel)) (fun _ _ _ _ _ => pg_name (i := 10) sc__law_late_right.nd rfl (by first | exact .inl rfl | exact .inr rfl)) ?_)
  refine lcW_of ?_
  refine wi_lst ?_
  refine w_callB (id := "sorted") T.b_sorted ?_
  refine wa_cons ?_
  refine w_name 3 rfl (.inl rfl) rfl ?_
  refine wa_nil ?_
  refine c_sortedI (ns := (A :: B :: rest).map fun a : Nat => (a : Int)) (.inl (by rw [List.map_map]; rfl)) fun ns' hp' hs' => ?_
  rw [sorted_range hp hp' hs', List.map_map]
  refine ⟨_, rfl, ?_⟩
  refine lcq_map ((List.range (n1 + n2 + 2))) _ ((fun x => roomD (g x))) rfl (by first | omega | (simp only [List.length_map, List.length_range]; omega) | (simp; omega)) ?_ ?_
  · intro p_room iroom room hroom
    refine ⟨[_, _, _, _, _, _, _, _, _, _, _, _, _, _, _, _, _], rfl, fun _ _ _ _ _ => ?_⟩
    refine w_dget hu ?_
    refine w_name 8 rfl (.inr (.inl rfl)) rfl ?_
    refine w_name 10 rfl (.inl rfl) rfl ?_
    refine ⟨q, 1, _, ik room, _, rfl, rfl, rfl, (bent_val hall (List.mem_range.mp (List.mem_of_getElem? hroom)) hf).trans (show some (roomD (bentRoom A B R S r3 r4 room)) = some (roomD (g room)) by rw [hg]), ?_⟩
    exact ⟨rfl, rfl⟩
  intro p_c
  refine ⟨_, _, _, rfl, rfl, ?_⟩
  refine wa_nil ?_
  walk_at "c_tuple"
  refine wa_nil ?_
  refine ⟨by simp, ?_⟩
  rw [mk_D]
  obtain ⟨w1, w2, w3⟩ := bent_lets hN (show r3 < R.length by omega) (show r4 < S.length by omega) (show i0 < R.length by omega) (show j0 < S.length by omega) (by rw [hRl]; exact hi2) (by rw [hSl]; exact hj2)
  rw [← hg] at w1 w2 w3
  have hGok : (mkM (n1 + n2 + 2) g).Ok 24 := mk_ok (by omega) hn3 fun x hx => by rw [hg]; exact bent_cOk hN (by omega) (by omega) (by omega) hx
  have hain : AIn (mkM (n1 + n2 + 2) g) (lateRow far) := fun a ha => by
    show a < 2
    rcases List.mem_append.mp ha with ha | ha
    · rw [List.eq_of_mem_replicate ha]; decide
    · have ha : a = 1 := by simpa using ha
      rw [ha]; decide
  have hinG1 : RIn (mkM (n1 + n2 + 2) g) (some (R.getD i0 0)) := fun x e => by cases e; rw [mk_len]; exact l3 _ (getD_mem (by omega))
  have hinG2 : RIn (mkM (n1 + n2 + 2) g) (some (S.getD j0 0)) := fun x e => by cases e; rw [mk_len]; exact l4 _ (getD_mem (by omega))
  -- if lets(_law_bent, _law_one, _law_row) is not False or lets(_law_bent, _law_one, _law_row[:_law_far_here + 1]) is not True:
  refine w_cons (w_if ?_)
  refine wt_b (false) ?_ ?_
  · refine wt_w ?_
    refine ww_or ?_
    refine wt_cmp ?_
    refine w_callG G_lets hr ?_
    refine wa_cons ?_
    refine w_name 16 rfl (.inl rfl) rfl ?_
    refine wa_cons ?_
    refine w_name 13 rfl (.inl rfl) rfl ?_
    refine wa_cons ?_
    refine w_name 15 rfl (.inl rfl) rfl ?_
    refine wa_nil ?_
    refine ⟨mkM (n1 + n2 + 2) g, 24, some (R.getD i0 0), lateRow far, rfl, hGok, hinG1, hain, by omega, ?_⟩
    rw [w1, hrl, decide_eq_false (by omega)]
    refine w_bl ?_
    refine o_notB ?_
    refine ⟨_, rfl, ?_⟩
    refine ⟨fun hb0 => ?_, fun hb0 => ⟨(by cases hb0), rfl⟩⟩
    refine ww_or1 ?_
    refine wt_cmp ?_
    refine w_callG G_lets hr ?_
    refine wa_cons ?_
    refine w_name 16 rfl (.inl rfl) rfl ?_
    refine wa_cons ?_
    refine w_name 13 rfl (.inl rfl) rfl ?_
    refine wa_cons ?_
    refine w_sl ?_
    refine w_name 15 rfl (.inl rfl) rfl ?_
    refine wo_none ?_
    refine wo_some ?_
    refine w_bin ?_
    refine w_name 7 rfl (.inl rfl) rfl ?_
    refine w_int ?_
    refine o_addN (b := 1) ?_
    refine ⟨_, rfl, ?_⟩
    refine sd_tup ?_
    rw [cutD_to, ← List.map_take]
    refine wa_nil ?_
    refine ⟨mkM (n1 + n2 + 2) g, 24, some (R.getD i0 0), (lateRow far).take (far + 1), rfl, hGok, hinG1, hain.take _, by rw [List.length_take]; omega, ?_⟩
    rw [take_late, w2, List.length_append, List.length_replicate, decide_eq_true (by rfl)]
    refine w_bl ?_
    refine o_notB ?_
    refine ⟨_, rfl, ?_⟩
    exact ⟨(by rfl), rfl⟩
  refine ⟨fun hb => ?_, fun hb => ?_⟩
  · -- return False
    refine w_cons (w_ret ?_)
    refine w_bl ?_
    cases hb
  refine w_nil ?_
  -- return lets(_law_bent, _law_other, _law_row) is True
  refine w_cons (w_ret (w_dr ?_))
  refine w_cmp ?_
  refine w_callG G_lets hr ?_
  refine wa_cons ?_
  refine w_name 16 rfl (.inl rfl) rfl ?_
  refine wa_cons ?_
  refine w_name 14 rfl (.inl rfl) rfl ?_
  refine wa_cons ?_
  refine w_name 15 rfl (.inl rfl) rfl ?_
  refine wa_nil ?_
  refine ⟨mkM (n1 + n2 + 2) g, 24, some (S.getD j0 0), lateRow far, rfl, hGok, hinG2, hain, by omega, ?_⟩
  rw [w3, hrl, decide_eq_true rfl]
  refine w_bl ?_
  refine o_isB ?_
  exact ⟨_, List.sublist_cons_self _ _, kq (c + 1 + 1 + 1) _ (by omega) rfl⟩
end
end L09

namespace L09
open PySem PySem.Spec L2 Oc
open Evl (Ex)
local macro_rules | `(tactic| walk_at "s") => `(tactic| first | assumption | omega | decide | (simp only [] at *; omega))
local macro_rules | `(tactic| walk_at "Add") => `(tactic| first | refine o_addN ?_ | refine o_add ?_ | refine o_addS (by walk_at "s") ?_ | refine o_addT (by walk_at "s") ?_ | refine o_addL (by walk_at "s") ?_)
local macro_rules | `(tactic| walk_at "Sub") => `(tactic| refine o_sub ?_)
local macro_rules | `(tactic| walk_at "Mult") => `(tactic| refine o_mul (by walk_at "s") ?_)
local macro_rules | `(tactic| walk_at "Mod") => `(tactic| first | refine o_modN (by walk_at "s") ?_ | refine o_mod (by walk_at "s") ?_)
local macro_rules | `(tactic| walk_at "FloorDiv") => `(tactic| first | refine o_divN (by walk_at "s") ?_ | refine o_div (by walk_at "s") ?_)
local macro_rules | `(tactic| walk_at "Pow") => `(tactic| refine o_pow (by walk_at "s") ?_)
local macro_rules | `(tactic| walk_at "LShift") => `(tactic| refine o_shl (by walk_at "s") ?_)
local macro_rules | `(tactic| walk_at "RShift") => `(tactic| refine o_shr (by walk_at "s") ?_)
local macro_rules | `(tactic| walk_at "BitAnd") => `(tactic| refine o_band ?_)
local macro_rules | `(tactic| walk_at "BitXor") => `(tactic| refine o_bxor ?_)
local macro_rules | `(tactic| walk_at "BitOr") => `(tactic| refine o_bor ?_)
local macro_rules | `(tactic| walk_at "Lt") => `(tactic| refine o_lt ?_)
local macro_rules | `(tactic| walk_at "LtE") => `(tactic| refine o_le ?_)
local macro_rules | `(tactic| walk_at "Gt") => `(tactic| refine o_gt ?_)
local macro_rules | `(tactic| walk_at "GtE") => `(tactic| refine o_ge ?_)
local macro_rules | `(tactic| walk_at "Eq") => `(tactic| refine o_eq (by rfl) ?_)
local macro_rules | `(tactic| walk_at "NotEq") => `(tactic| refine o_ne (by rfl) ?_)
local macro_rules | `(tactic| walk_at "Is") => `(tactic| refine o_isN ?_)
local macro_rules | `(tactic| walk_at "IsNot") => `(tactic| refine o_notN ?_)
local macro_rules | `(tactic| walk_at "In") => `(tactic| refine o_in (by first | exact .inl rfl | exact .inr (.inl rfl) | exact .inr (.inr rfl)) (by rfl) (by rfl) ?_)
local macro_rules | `(tactic| walk_at "NotIn") => `(tactic| refine o_nin (by first | exact .inl rfl | exact .inr (.inl rfl) | exact .inr (.inr rfl)) (by rfl) (by rfl) ?_)
local macro_rules | `(tactic| walk_at "c_abs") => `(tactic| refine c_abs ?_)
local macro_rules | `(tactic| walk_at "c_len") => `(tactic| first | refine c_lenL ?_ | refine c_lenC ?_ | refine c_lenT ?_ | refine c_lenS (by walk_at "s") ?_ | refine c_lenP 0 (by first | assumption | rfl) ?_)
local macro_rules | `(tactic| walk_at "c_str") => `(tactic| refine c_str (by walk_at "s") ?_)
local macro_rules | `(tactic| walk_at "c_isinstance") => `(tactic| refine c_isi rfl (by rfl) ?_)
local macro_rules | `(tactic| walk_at "sl") => `(tactic| first | refine sd_tup ?_ | refine sd_lst ?_)
local macro_rules | `(tactic| walk_at "c_tuple") => `(tactic| first | refine c_tupL ?_ | refine c_tupP 0 (by first | assumption | rfl) ?_ | refine c_tupT ?_)
local macro_rules | `(tactic| walk_at "c_int") => `(tactic| first | refine c_intB ?_)
local macro_rules | `(tactic| walk_at "USub") => `(tactic| refine u_neg ?_)
local macro_rules | `(tactic| walk_at "pen") => `(tactic| first | assumption | exact get_set (by assumption) | exact get_set (get_set (by assumption)) | exact get_here | (apply get_cons; walk_at "pen") | (apply get_app; walk_at "pen"))
local macro_rules | `(tactic| walk_at "mu") => `(tactic| simp only [List.set_cons_succ, List.set_set, List.set_cons_zero])
/-! ### k09: the law -/
section
variable {P : Program} {w : World} {K : PySem.W.Frag} {mg : Str → Option Value} {base : Heap}
theorem ok_law {f : Addr} {fd : FuncData} (FL : Fun K "law" "law" s_law f fd) (T : Tx mg) (G__law_rings_right : KnG P w K mg base 5 "_law_rings_right" ["_law_pen"] S_ringsR) (G__law_late_right : KnG P w K mg base 4 "_law_late_right" ["_law_pen"] S_late) (G__law_machine : KnG P w K mg base 3 "_law_machine" ["_law_pen", "_law_most"] S_machine) (G__law_far : KnG P w K mg base 2 "_law_far" ["_law_machine_here"] S_far) (G__law_take : KnG P w K mg base 1 "_law_take" ["_law_pen", "_law_many"] S_draw) (G_parting : KnG P w K mg base 3 "parting" ["machine", "one", "other"] S_part) (G__law_first : KnG P w K mg base 2 "_law_first" ["_law_machine_here", "_law_far_here", "_law_one", "_law_other"] S_first) (G__law_said : KnG P w K mg base 3 "_law_said" ["_law_machine_here", "_law_one", "_law_other", "_law_row"] S_said) : FnG P w K mg base 6 f fd ["_law_script"] S_law := by
  refine fnG_of FL sc_law (fun ds μ Φ h => by obtain ⟨_, rfl, _⟩ := h; rfl) fun cdv A outer s H E grd hr ds μ Φ h => ?_
  obtain ⟨ns, rfl, hns, k⟩ := h
  refine wSs_rho (ρ' := [_, _, _, _, _, _, _, _]) rfl ?_
  -- _law_pen = [_law_script, 0, 0]
  refine w_cons (w_set 1 sc_law.nd rfl (.inl rfl) (.inl rfl) ?_)
  refine w_lstM ?_
  refine wa_cons ?_
  refine w_name 0 rfl (.inl rfl) rfl ?_
  refine wa_cons ?_
  refine w_int ?_
  refine wa_cons ?_
  refine w_int ?_
  refine wa_nil ?_
  refine ⟨by simp, fun pq => ?_⟩
  refine wSs_close (i := 0) (penP ns 0) rfl ⟨0, 0, rfl, by decide, by decide, by decide⟩ ?_
  rw [List.set_cons_zero]
  -- if not _law_rings_right(_law_pen) or not _law_late_right(_law_pen):
  refine w_cons (w_if ?_)
  refine wt_mono (Ψ := (fun b μ1 => b = false ∧ ∃ c : Nat, c ≤ 400 ∧ μ1 = (pq, penO ns c) :: μ)) ?_ ?_
  · refine wt_w ?_
    refine ww_or ?_
    refine wt_not ?_
    refine wt_val ?_
    refine w_callG G__law_rings_right hr ?_
    refine wa_cons ?_
    refine w_name 1 rfl (.inl rfl) rfl ?_
    refine wa_nil ?_
    refine ⟨ns, 0, pq, 0, rfl, rfl, by omega, fun c1 μ1 hc1 e1 => ?_⟩
    rw [List.set_cons_zero] at e1
    subst e1
    refine ⟨_, rfl, ?_⟩
    refine ⟨fun hb0 => ?_, fun hb0 => ?_⟩
    rotate_left
    · cases hb0
    refine ww_or1 ?_
    refine wt_not ?_
    refine wt_val ?_
    refine w_callG G__law_late_right hr ?_
    refine wa_cons ?_
    refine w_name 1 rfl (.inl rfl) rfl ?_
    refine wa_nil ?_
    refine ⟨ns, c1, pq, 0, rfl, rfl, by omega, fun c2 μ2 hc2 e2 => ?_⟩
    rw [List.set_cons_zero] at e2
    subst e2
    refine ⟨_, rfl, ?_⟩
    exact ⟨rfl, c2, by omega, rfl⟩
  rintro b μ1 ⟨rfl, c2, hc2, rfl⟩
  refine ⟨fun hb => ?_, fun hb => ?_⟩
  · -- return False
    refine w_cons (w_ret ?_)
    refine w_bl ?_
    cases hb
  refine w_nil ?_
  -- _law_machine_here = _law_machine(_law_pen, 24)
  refine w_cons (w_set 2 sc_law.nd rfl (.inl rfl) (.inl rfl) ?_)
  refine w_callG G__law_machine hr ?_
  refine wa_cons ?_
  refine w_name 1 rfl (.inl rfl) rfl ?_
  refine wa_cons ?_
  refine w_int ?_
  refine wa_nil ?_
  refine ⟨ns, c2, pq, 0, 24, rfl, rfl, by omega, by omega, fun m c3 μ3 hm hc3 e3 => ?_⟩
  rw [List.set_cons_zero] at e3
  subst e3
  have hroom := hm.rm
  have hroom0 := hm.r0
  -- _law_far_here = _law_far(_law_machine_here)
  refine w_cons (w_set 3 sc_law.nd rfl (.inl rfl) (.inl rfl) ?_)
  refine w_callG G__law_far hr ?_
  refine wa_cons ?_
  refine w_name 2 rfl (.inl rfl) rfl ?_
  refine wa_nil ?_
  refine ⟨m, 24, rfl, hm, by decide, fun L qf hW hL => ?_⟩
  -- for _law_k in range(5):
  refine w_cons (w_forV [4, 5, 6, 7] ?_ PassesOwn.never rfl)
  refine wi_rngN T.b_range ?_
  refine w_int ?_
  refine ⟨5, by rfl, by omega, ?_⟩
  refine ⟨_, fun i vs μ' => ∃ (c : Nat) (w4 w5 w6 w7 : Option D), (c ≤ 1400 + 2 * i) ∧ vs = [w4, w5, w6, w7] ∧ (qf, .dt (farT m L)) :: (pq, penO ns c) :: μ = μ', (by first | exact nats_len | exact nats2_len | exact enumD_len.trans (List.length_map _) | exact enumD_len | exact List.length_map _ | exact rfl | simp), ⟨c3, _, _, _, _, (by omega), rfl, rfl⟩, ?_, ?_⟩
  · rintro k x vs μ' hx ⟨c, w4, w5, w6, w7, hc, rfl, rfl⟩
    refine wG_rho (ρ' := [_, _, _, _, _, _, _, _]) rfl ?_
    obtain ⟨hk, rfl⟩ := nats_get hx
    refine wg_name 4 sc_law.nd rfl (.inl rfl) (.inl rfl) ?_
    -- _law_one = _law_take(_law_pen, len(_law_machine_here[1]))
    refine w_cons (w_set 5 sc_law.nd rfl (.inl rfl) (.inl rfl) ?_)
    refine w_callG G__law_take hr ?_
    refine wa_cons ?_
    refine w_name 1 rfl (.inl rfl) rfl ?_
    refine wa_cons ?_
    refine w_callB (id := "len") T.b_len ?_
    refine wa_cons ?_
    refine w_ix ?_
    refine w_name 2 rfl (.inl rfl) rfl ?_
    refine w_int ?_
    refine ix_tupD 1 rfl rfl ?_
    refine wa_nil ?_
    walk_at "c_len"
    rw [List.length_map]
    refine wa_nil ?_
    refine ⟨_, _, _, _, _, rfl, by walk_at "pen", by omega, by omega, fun r1 μ1 hr1 e1 => ?_⟩
    try simp only [List.set_cons_succ, List.set_set, List.set_cons_zero] at e1
    subst e1
    -- _law_other = _law_take(_law_pen, len(_law_machine_here[1]))
    refine w_cons (w_set 6 sc_law.nd rfl (.inl rfl) (.inl rfl) ?_)
    refine w_callG G__law_take hr ?_
    refine wa_cons ?_
    refine w_name 1 rfl (.inl rfl) rfl ?_
    refine wa_cons ?_
    refine w_callB (id := "len") T.b_len ?_
    refine wa_cons ?_
    refine w_ix ?_
    refine w_name 2 rfl (.inl rfl) rfl ?_
    refine w_int ?_
    refine ix_tupD 1 rfl rfl ?_
    refine wa_nil ?_
    walk_at "c_len"
    rw [List.length_map]
    refine wa_nil ?_
    refine ⟨_, _, _, _, _, rfl, by walk_at "pen", by omega, by omega, fun r2 μ2 hr2 e2 => ?_⟩
    try simp only [List.set_cons_succ, List.set_set, List.set_cons_zero] at e2
    subst e2
    -- _law_row = parting(_law_machine_here, _law_one, _law_other)
    refine w_cons (w_set 7 sc_law.nd rfl (.inl rfl) (.inl rfl) ?_)
    refine w_callG G_parting hr ?_
    refine wa_cons ?_
    refine w_name 2 rfl (.inl rfl) rfl ?_
    refine wa_cons ?_
    refine w_name 5 rfl (.inl rfl) rfl ?_
    refine wa_cons ?_
    refine w_name 6 rfl (.inl rfl) rfl ?_
    refine wa_nil ?_
    have hp : PIn m (r1, r2) := ⟨by show r1 < _; omega, by show r2 < _; omega⟩
    refine ⟨m, 24, r1, r2, rfl, hm, by decide, hp, fun res hres => ?_⟩
    -- if repr(_law_row) != repr(_law_first(_law_machine_here, _law_far_here, _law_one, _law_other)):
    refine w_cons (w_if ?_)
    refine wt_cmp ?_
    refine w_callB (id := "repr") T.b_repr ?_
    refine wa_cons ?_
    refine w_name 7 rfl (.inl rfl) rfl ?_
    refine wa_nil ?_
    refine c_reprT (roP res) hr (shw_ro _ _) (tm_ro hm hres) ?_
    refine w_callB (id := "repr") T.b_repr ?_
    refine wa_cons ?_
    refine w_callG G__law_first hr ?_
    refine wa_cons ?_
    refine w_name 2 rfl (.inl rfl) rfl ?_
    refine wa_cons ?_
    refine w_name 3 rfl (.inl rfl) rfl ?_
    refine wa_cons ?_
    refine w_name 5 rfl (.inl rfl) rfl ?_
    refine wa_cons ?_
    refine w_name 6 rfl (.inl rfl) rfl ?_
    refine wa_nil ?_
    refine ⟨m, 24, L, qf, 0, r1, r2, rfl, hm, by decide, hp, rfl, hW, hL, fun res2 hres2 => ?_⟩
    obtain rfl := res_uniq hres hres2
    refine wa_nil ?_
    refine c_reprT (roP res) hr (shw_ro _ _) (tm_ro hm hres) ?_
    walk_at "NotEq"
    refine ⟨_, rfl, ?_⟩
    refine ⟨fun hb => ?_, fun hb => ?_⟩
    · -- return False
      refine w_cons (w_ret ?_)
      refine w_bl ?_
      simp [D.eqf] at hb
    refine w_nil ?_
    -- if _law_row is not None and (not _law_said(_law_machine_here, _law_one, _law_other, _law_row)):
    refine w_cons (w_if ?_)
    refine wt_b (false) ?_ ?_
    · refine wt_w ?_
      refine ww_and ?_
      refine wt_cmp ?_
      refine w_name 7 rfl (.inl rfl) rfl ?_
      refine w_non ?_
      refine o_notN ?_
      rw [ro_som]
      refine ⟨_, rfl, ?_⟩
      refine ⟨fun hb0 => ?_, fun hb0 => ⟨(by simp_all), rfl⟩⟩
      refine ww_and1 ?_
      refine wt_not ?_
      refine wt_val ?_
      refine w_callG G__law_said hr ?_
      refine wa_cons ?_
      refine w_name 2 rfl (.inl rfl) rfl ?_
      refine wa_cons ?_
      refine w_name 5 rfl (.inl rfl) rfl ?_
      refine wa_cons ?_
      refine w_name 6 rfl (.inl rfl) rfl ?_
      refine wa_cons ?_
      refine w_name 7 rfl (.inl rfl) rfl ?_
      refine wa_nil ?_
      obtain ⟨row, rfl⟩ : ∃ row, res = some row := Option.isSome_iff_exists.mp hb0
      refine ⟨m, 24, r1, r2, row, rfl, hm, by decide, hp, hres.1.1, hres.2, ?_⟩
      refine ⟨_, rfl, ?_⟩
      exact ⟨(by simp_all), rfl⟩
    refine ⟨fun hb => ?_, fun hb => ?_⟩
    · -- return False
      refine w_cons (w_ret ?_)
      refine w_bl ?_
      cases hb
    refine w_nil ?_
    refine w_nil ?_
    exact ⟨[_, _, _, _], rfl, ⟨c + 1 + 1, _, _, _, _, (by omega), rfl, rfl⟩⟩
  rintro vs μ' ⟨c, w4, w5, w6, w7, hc, rfl, rfl⟩
  refine wSs_rho (ρ' := [_, _, _, _, _, _, _, _]) rfl ?_
  -- return True
  refine w_cons (w_ret ?_)
  refine w_bl ?_
  exact k _
theorem ok_all {f : Addr} {fd : FuncData} (T : Tx mg) (B0 : Src K mg "differ" s_differ ["one", "other"]) (B1 : Src K mg "both_go" s_both_go ["machine", "one", "other", "ask"]) (B2 : Src K mg "are_unlike" s_are_unlike ["machine", "one", "other", "ask"]) (B3 : Src K mg "pairs_of" s_pairs_of ["machine"]) (B4 : Src K mg "came_from" s_came_from ["machine"]) (B5 : Src K mg "part_table" s_part_table ["machine"]) (B6 : Src K mg "parting" s_parting ["machine", "one", "other"]) (B7 : Src K mg "parted" s_parted ["machine"]) (B8 : Src K mg "run" s_run ["machine", "room", "row"]) (B9 : Src K mg "lets" s_lets ["machine", "room", "row"]) (B10 : Src K mg "_law_take" s__law_take ["_law_pen", "_law_many"]) (B11 : Src K mg "_law_cell" s__law_cell ["_law_pen", "_law_many", "_law_share", "_law_kinds"]) (B12 : Src K mg "_law_near" s__law_near ["_law_pen", "_law_room", "_law_many", "_law_kinds"]) (B13 : Src K mg "_law_machine" s__law_machine ["_law_pen", "_law_most"]) (B14 : Src K mg "_law_unlike" s__law_unlike ["_law_machine_here", "_law_one", "_law_other", "_law_ask"]) (B15 : Src K mg "_law_both" s__law_both ["_law_machine_here", "_law_one", "_law_other", "_law_ask"]) (B16 : Src K mg "_law_rings" s__law_rings ["_law_pen"]) (B17 : Src K mg "_law_steps" s__law_steps ["_law_rings_here", "_law_spots", "_law_i", "_law_j"]) (B18 : Src K mg "_law_said" s__law_said ["_law_machine_here", "_law_one", "_law_other", "_law_row"]) (B19 : Src K mg "_law_rings_right" s__law_rings_right ["_law_pen"]) (B20 : Src K mg "_law_far" s__law_far ["_law_machine_here"]) (B21 : Src K mg "_law_first" s__law_first ["_law_machine_here", "_law_far_here", "_law_one", "_law_other"]) (B22 : Src K mg "_law_late_right" s__law_late_right ["_law_pen"]) (FL : Fun K "law" "law" s_law f fd) : FnG P w K mg base 6 f fd ["_law_script"] S_law :=
  have GT := ok_take (P := P) (w := w) (base := base) B10 T
  have GU := ok_lunl (P := P) (w := w) (base := base) B14 T
  have GB := ok_lboth (P := P) (w := w) (base := base) B15 T
  have GR := ok_run (P := P) (w := w) (base := base) B8 T
  have GL := ok_lets B9 T GR
  have GX := ok_both (P := P) (w := w) (base := base) B1 T
  have GN := ok_unlike B2 T (ok_differ (P := P) (w := w) (base := base) B0 T)
  have GQ := ok_pairs (P := P) (w := w) (base := base) B3 T
  have GP := ok_part B6 T GX GN
  have GS := ok_said B18 T GL GR
  have GD := ok_parted B7 T GQ (ok_tab B5 T GQ GN (ok_came B4 T GQ GX))
  ok_law FL T (ok_ringsR B19 T (ok_rings B16 T GT) (ok_steps B17 T) GD GT GP GS) (ok_late B22 T GT GP GS GL) (ok_machine B13 T GT (ok_near B12 T GT) (ok_cell B11 T GT)) (ok_far B20 T GU GB) GT GP (ok_first B21 T GU GB) GS
end
end L09

namespace L09
open PySem PySem.Spec L2 Oc
theorem all_mk {l : PySem.W.OpenLaw} {w : World} {K : PySem.W.Frag} {h : Heap} {mg : Str → Option Value} {fa f0 f1 f2 f3 f4 f5 f6 f7 f8 f9 f10 f11 f12 f13 f14 f15 f16 f17 f18 f19 f20 f21 f22 f23 : Addr} (X : K.In h) (G : h.Ns mainGlobals mg) (hfa : mg "law" = some (.ref fa))
    {od0 an0 od1 an1 od2 an2 od3 an3 od4 an4 od5 an5 od6 an6 od7 an7 od8 an8 od9 an9 od10 an10 od11 an11 od12 an12 od13 an13 od14 an14 od15 an15 od16 an16 od17 an17 od18 an18 od19 an19 od20 an20 od21 an21 od22 an22 od23 an23 : Option Addr} {sl0 sl1 sl2 sl3 sl4 sl5 sl6 sl7 sl8 sl9 sl10 sl11 sl12 sl13 sl14 sl15 sl16 sl17 sl18 sl19 sl20 sl21 sl22 sl23 : Array (Option Value)} {oc0 kV0 dc0 pm0 cd0 ct0 oc1 kV1 dc1 pm1 cd1 ct1 oc2 kV2 dc2 pm2 cd2 ct2 oc3 kV3 dc3 pm3 cd3 ct3 oc4 kV4 dc4 pm4 cd4 ct4 oc5 kV5 dc5 pm5 cd5 ct5 oc6 kV6 dc6 pm6 cd6 ct6 oc7 kV7 dc7 pm7 cd7 ct7 oc8 kV8 dc8 pm8 cd8 ct8 oc9 kV9 dc9 pm9 cd9 ct9 oc10 kV10 dc10 pm10 cd10 ct10 oc11 kV11 dc11 pm11 cd11 ct11 oc12 kV12 dc12 pm12 cd12 ct12 oc13 kV13 dc13 pm13 cd13 ct13 oc14 kV14 dc14 pm14 cd14 ct14 oc15 kV15 dc15 pm15 cd15 ct15 oc16 kV16 dc16 pm16 cd16 ct16 oc17 kV17 dc17 pm17 cd17 ct17 oc18 kV18 dc18 pm18 cd18 ct18 oc19 kV19 dc19 pm19 cd19 ct19 oc20 kV20 dc20 pm20 cd20 ct20 oc21 kV21 dc21 pm21 cd21 ct21 oc22 kV22 dc22 pm22 cd22 ct22 oc23 kV23 dc23 pm23 cd23 ct23 : Value}
    (a0 : PySem.W.nsIn K mainGlobals "differ" = some (some (.ref f0))) (l0 : K.lookup f0 = some ⟨oc0, od0, .func (PySem.W.fnOf "differ" "differ" (defArgs s_differ) (defBody s_differ) (defScope s_differ) .none kV0 dc0 pm0 an0 cd0 ct0), sl0⟩) (c0 : PySem.W.codeIn K cd0 "differ" = true) (k0 : PySem.W.keepIn K (.ref f0) = true)
    (a1 : PySem.W.nsIn K mainGlobals "both_go" = some (some (.ref f1))) (l1 : K.lookup f1 = some ⟨oc1, od1, .func (PySem.W.fnOf "both_go" "both_go" (defArgs s_both_go) (defBody s_both_go) (defScope s_both_go) .none kV1 dc1 pm1 an1 cd1 ct1), sl1⟩) (c1 : PySem.W.codeIn K cd1 "both_go" = true) (k1 : PySem.W.keepIn K (.ref f1) = true)
    (a2 : PySem.W.nsIn K mainGlobals "are_unlike" = some (some (.ref f2))) (l2 : K.lookup f2 = some ⟨oc2, od2, .func (PySem.W.fnOf "are_unlike" "are_unlike" (defArgs s_are_unlike) (defBody s_are_unlike) (defScope s_are_unlike) .none kV2 dc2 pm2 an2 cd2 ct2), sl2⟩) (c2 : PySem.W.codeIn K cd2 "are_unlike" = true) (k2 : PySem.W.keepIn K (.ref f2) = true)
    (a3 : PySem.W.nsIn K mainGlobals "pairs_of" = some (some (.ref f3))) (l3 : K.lookup f3 = some ⟨oc3, od3, .func (PySem.W.fnOf "pairs_of" "pairs_of" (defArgs s_pairs_of) (defBody s_pairs_of) (defScope s_pairs_of) .none kV3 dc3 pm3 an3 cd3 ct3), sl3⟩) (c3 : PySem.W.codeIn K cd3 "pairs_of" = true) (k3 : PySem.W.keepIn K (.ref f3) = true)
    (a4 : PySem.W.nsIn K mainGlobals "came_from" = some (some (.ref f4))) (l4 : K.lookup f4 = some ⟨oc4, od4, .func (PySem.W.fnOf "came_from" "came_from" (defArgs s_came_from) (defBody s_came_from) (defScope s_came_from) .none kV4 dc4 pm4 an4 cd4 ct4), sl4⟩) (c4 : PySem.W.codeIn K cd4 "came_from" = true) (k4 : PySem.W.keepIn K (.ref f4) = true)
    (a5 : PySem.W.nsIn K mainGlobals "part_table" = some (some (.ref f5))) (l5 : K.lookup f5 = some ⟨oc5, od5, .func (PySem.W.fnOf "part_table" "part_table" (defArgs s_part_table) (defBody s_part_table) (defScope s_part_table) .none kV5 dc5 pm5 an5 cd5 ct5), sl5⟩) (c5 : PySem.W.codeIn K cd5 "part_table" = true) (k5 : PySem.W.keepIn K (.ref f5) = true)
    (a6 : PySem.W.nsIn K mainGlobals "parting" = some (some (.ref f6))) (l6 : K.lookup f6 = some ⟨oc6, od6, .func (PySem.W.fnOf "parting" "parting" (defArgs s_parting) (defBody s_parting) (defScope s_parting) .none kV6 dc6 pm6 an6 cd6 ct6), sl6⟩) (c6 : PySem.W.codeIn K cd6 "parting" = true) (k6 : PySem.W.keepIn K (.ref f6) = true)
    (a7 : PySem.W.nsIn K mainGlobals "parted" = some (some (.ref f7))) (l7 : K.lookup f7 = some ⟨oc7, od7, .func (PySem.W.fnOf "parted" "parted" (defArgs s_parted) (defBody s_parted) (defScope s_parted) .none kV7 dc7 pm7 an7 cd7 ct7), sl7⟩) (c7 : PySem.W.codeIn K cd7 "parted" = true) (k7 : PySem.W.keepIn K (.ref f7) = true)
    (a8 : PySem.W.nsIn K mainGlobals "run" = some (some (.ref f8))) (l8 : K.lookup f8 = some ⟨oc8, od8, .func (PySem.W.fnOf "run" "run" (defArgs s_run) (defBody s_run) (defScope s_run) .none kV8 dc8 pm8 an8 cd8 ct8), sl8⟩) (c8 : PySem.W.codeIn K cd8 "run" = true) (k8 : PySem.W.keepIn K (.ref f8) = true)
    (a9 : PySem.W.nsIn K mainGlobals "lets" = some (some (.ref f9))) (l9 : K.lookup f9 = some ⟨oc9, od9, .func (PySem.W.fnOf "lets" "lets" (defArgs s_lets) (defBody s_lets) (defScope s_lets) .none kV9 dc9 pm9 an9 cd9 ct9), sl9⟩) (c9 : PySem.W.codeIn K cd9 "lets" = true) (k9 : PySem.W.keepIn K (.ref f9) = true)
    (a10 : PySem.W.nsIn K mainGlobals "_law_take" = some (some (.ref f10))) (l10 : K.lookup f10 = some ⟨oc10, od10, .func (PySem.W.fnOf "_law_take" "_law_take" (defArgs s__law_take) (defBody s__law_take) (defScope s__law_take) .none kV10 dc10 pm10 an10 cd10 ct10), sl10⟩) (c10 : PySem.W.codeIn K cd10 "_law_take" = true) (k10 : PySem.W.keepIn K (.ref f10) = true)
    (a11 : PySem.W.nsIn K mainGlobals "_law_cell" = some (some (.ref f11))) (l11 : K.lookup f11 = some ⟨oc11, od11, .func (PySem.W.fnOf "_law_cell" "_law_cell" (defArgs s__law_cell) (defBody s__law_cell) (defScope s__law_cell) .none kV11 dc11 pm11 an11 cd11 ct11), sl11⟩) (c11 : PySem.W.codeIn K cd11 "_law_cell" = true) (k11 : PySem.W.keepIn K (.ref f11) = true)
    (a12 : PySem.W.nsIn K mainGlobals "_law_near" = some (some (.ref f12))) (l12 : K.lookup f12 = some ⟨oc12, od12, .func (PySem.W.fnOf "_law_near" "_law_near" (defArgs s__law_near) (defBody s__law_near) (defScope s__law_near) .none kV12 dc12 pm12 an12 cd12 ct12), sl12⟩) (c12 : PySem.W.codeIn K cd12 "_law_near" = true) (k12 : PySem.W.keepIn K (.ref f12) = true)
    (a13 : PySem.W.nsIn K mainGlobals "_law_machine" = some (some (.ref f13))) (l13 : K.lookup f13 = some ⟨oc13, od13, .func (PySem.W.fnOf "_law_machine" "_law_machine" (defArgs s__law_machine) (defBody s__law_machine) (defScope s__law_machine) .none kV13 dc13 pm13 an13 cd13 ct13), sl13⟩) (c13 : PySem.W.codeIn K cd13 "_law_machine" = true) (k13 : PySem.W.keepIn K (.ref f13) = true)
    (a14 : PySem.W.nsIn K mainGlobals "_law_unlike" = some (some (.ref f14))) (l14 : K.lookup f14 = some ⟨oc14, od14, .func (PySem.W.fnOf "_law_unlike" "_law_unlike" (defArgs s__law_unlike) (defBody s__law_unlike) (defScope s__law_unlike) .none kV14 dc14 pm14 an14 cd14 ct14), sl14⟩) (c14 : PySem.W.codeIn K cd14 "_law_unlike" = true) (k14 : PySem.W.keepIn K (.ref f14) = true)
    (a15 : PySem.W.nsIn K mainGlobals "_law_both" = some (some (.ref f15))) (l15 : K.lookup f15 = some ⟨oc15, od15, .func (PySem.W.fnOf "_law_both" "_law_both" (defArgs s__law_both) (defBody s__law_both) (defScope s__law_both) .none kV15 dc15 pm15 an15 cd15 ct15), sl15⟩) (c15 : PySem.W.codeIn K cd15 "_law_both" = true) (k15 : PySem.W.keepIn K (.ref f15) = true)
    (a16 : PySem.W.nsIn K mainGlobals "_law_rings" = some (some (.ref f16))) (l16 : K.lookup f16 = some ⟨oc16, od16, .func (PySem.W.fnOf "_law_rings" "_law_rings" (defArgs s__law_rings) (defBody s__law_rings) (defScope s__law_rings) .none kV16 dc16 pm16 an16 cd16 ct16), sl16⟩) (c16 : PySem.W.codeIn K cd16 "_law_rings" = true) (k16 : PySem.W.keepIn K (.ref f16) = true)
    (a17 : PySem.W.nsIn K mainGlobals "_law_steps" = some (some (.ref f17))) (l17 : K.lookup f17 = some ⟨oc17, od17, .func (PySem.W.fnOf "_law_steps" "_law_steps" (defArgs s__law_steps) (defBody s__law_steps) (defScope s__law_steps) .none kV17 dc17 pm17 an17 cd17 ct17), sl17⟩) (c17 : PySem.W.codeIn K cd17 "_law_steps" = true) (k17 : PySem.W.keepIn K (.ref f17) = true)
    (a18 : PySem.W.nsIn K mainGlobals "_law_said" = some (some (.ref f18))) (l18 : K.lookup f18 = some ⟨oc18, od18, .func (PySem.W.fnOf "_law_said" "_law_said" (defArgs s__law_said) (defBody s__law_said) (defScope s__law_said) .none kV18 dc18 pm18 an18 cd18 ct18), sl18⟩) (c18 : PySem.W.codeIn K cd18 "_law_said" = true) (k18 : PySem.W.keepIn K (.ref f18) = true)
    (a19 : PySem.W.nsIn K mainGlobals "_law_rings_right" = some (some (.ref f19))) (l19 : K.lookup f19 = some ⟨oc19, od19, .func (PySem.W.fnOf "_law_rings_right" "_law_rings_right" (defArgs s__law_rings_right) (defBody s__law_rings_right) (defScope s__law_rings_right) .none kV19 dc19 pm19 an19 cd19 ct19), sl19⟩) (c19 : PySem.W.codeIn K cd19 "_law_rings_right" = true) (k19 : PySem.W.keepIn K (.ref f19) = true)
    (a20 : PySem.W.nsIn K mainGlobals "_law_far" = some (some (.ref f20))) (l20 : K.lookup f20 = some ⟨oc20, od20, .func (PySem.W.fnOf "_law_far" "_law_far" (defArgs s__law_far) (defBody s__law_far) (defScope s__law_far) .none kV20 dc20 pm20 an20 cd20 ct20), sl20⟩) (c20 : PySem.W.codeIn K cd20 "_law_far" = true) (k20 : PySem.W.keepIn K (.ref f20) = true)
    (a21 : PySem.W.nsIn K mainGlobals "_law_first" = some (some (.ref f21))) (l21 : K.lookup f21 = some ⟨oc21, od21, .func (PySem.W.fnOf "_law_first" "_law_first" (defArgs s__law_first) (defBody s__law_first) (defScope s__law_first) .none kV21 dc21 pm21 an21 cd21 ct21), sl21⟩) (c21 : PySem.W.codeIn K cd21 "_law_first" = true) (k21 : PySem.W.keepIn K (.ref f21) = true)
    (a22 : PySem.W.nsIn K mainGlobals "_law_late_right" = some (some (.ref f22))) (l22 : K.lookup f22 = some ⟨oc22, od22, .func (PySem.W.fnOf "_law_late_right" "_law_late_right" (defArgs s__law_late_right) (defBody s__law_late_right) (defScope s__law_late_right) .none kV22 dc22 pm22 an22 cd22 ct22), sl22⟩) (c22 : PySem.W.codeIn K cd22 "_law_late_right" = true) (k22 : PySem.W.keepIn K (.ref f22) = true)
    (a23 : PySem.W.nsIn K mainGlobals "law" = some (some (.ref f23))) (l23 : K.lookup f23 = some ⟨oc23, od23, .func (PySem.W.fnOf "law" "law" (defArgs s_law) (defBody s_law) (defScope s_law) .none kV23 dc23 pm23 an23 cd23 ct23), sl23⟩) (c23 : PySem.W.codeIn K cd23 "law" = true) (k23 : PySem.W.keepIn K (.ref f23) = true)
    (z_len : PySem.W.nsIn K mainGlobals "len" = some none)
    (z_tuple : PySem.W.nsIn K mainGlobals "tuple" = some none)
    (z_range : PySem.W.nsIn K mainGlobals "range" = some none)
    (z_list : PySem.W.nsIn K mainGlobals "list" = some none)
    (z_zip : PySem.W.nsIn K mainGlobals "zip" = some none)
    (z_any : PySem.W.nsIn K mainGlobals "any" = some none)
    (z_repr : PySem.W.nsIn K mainGlobals "repr" = some none)
    (z_enumerate : PySem.W.nsIn K mainGlobals "enumerate" = some none)
    (z_abs : PySem.W.nsIn K mainGlobals "abs" = some none)
    (z_sorted : PySem.W.nsIn K mainGlobals "sorted" = some none)
    (z_int : PySem.W.nsIn K mainGlobals "int" = some none)
    (z_min : PySem.W.nsIn K mainGlobals "min" = some none)
    (z_max : PySem.W.nsIn K mainGlobals "max" = some none)
    : ∃ fd : FuncData, (∀ (s : Shared) (v : Value), BindsTo s fd ⟨[v], []⟩ [("_law_script", v)]) ∧ ∀ base : Heap, K.In base → base.Ns mainGlobals mg → FnG l.prog w K mg base 6 fa fd ["_law_script"] S_law := by
  have T : Tx mg := ⟨PySem.W.mg_none_of X G z_len, PySem.W.mg_none_of X G z_tuple, PySem.W.mg_none_of X G z_range, PySem.W.mg_none_of X G z_list, PySem.W.mg_none_of X G z_zip, PySem.W.mg_none_of X G z_any, PySem.W.mg_none_of X G z_repr, PySem.W.mg_none_of X G z_enumerate, PySem.W.mg_none_of X G z_abs, PySem.W.mg_none_of X G z_sorted, PySem.W.mg_none_of X G z_int, PySem.W.mg_none_of X G z_min, PySem.W.mg_none_of X G z_max⟩
  have B0 : Src K mg "differ" s_differ ["one", "other"] := src_mk (PySem.W.mg_of X G a0) l0 c0 k0 fun _ _ _ _ _ _ us hl => match us, hl with | [_, _], _ => rfl
  have B1 : Src K mg "both_go" s_both_go ["machine", "one", "other", "ask"] := src_mk (PySem.W.mg_of X G a1) l1 c1 k1 fun _ _ _ _ _ _ us hl => match us, hl with | [_, _, _, _], _ => rfl
  have B2 : Src K mg "are_unlike" s_are_unlike ["machine", "one", "other", "ask"] := src_mk (PySem.W.mg_of X G a2) l2 c2 k2 fun _ _ _ _ _ _ us hl => match us, hl with | [_, _, _, _], _ => rfl
  have B3 : Src K mg "pairs_of" s_pairs_of ["machine"] := src_mk (PySem.W.mg_of X G a3) l3 c3 k3 fun _ _ _ _ _ _ us hl => match us, hl with | [_], _ => rfl
  have B4 : Src K mg "came_from" s_came_from ["machine"] := src_mk (PySem.W.mg_of X G a4) l4 c4 k4 fun _ _ _ _ _ _ us hl => match us, hl with | [_], _ => rfl
  have B5 : Src K mg "part_table" s_part_table ["machine"] := src_mk (PySem.W.mg_of X G a5) l5 c5 k5 fun _ _ _ _ _ _ us hl => match us, hl with | [_], _ => rfl
  have B6 : Src K mg "parting" s_parting ["machine", "one", "other"] := src_mk (PySem.W.mg_of X G a6) l6 c6 k6 fun _ _ _ _ _ _ us hl => match us, hl with | [_, _, _], _ => rfl
  have B7 : Src K mg "parted" s_parted ["machine"] := src_mk (PySem.W.mg_of X G a7) l7 c7 k7 fun _ _ _ _ _ _ us hl => match us, hl with | [_], _ => rfl
  have B8 : Src K mg "run" s_run ["machine", "room", "row"] := src_mk (PySem.W.mg_of X G a8) l8 c8 k8 fun _ _ _ _ _ _ us hl => match us, hl with | [_, _, _], _ => rfl
  have B9 : Src K mg "lets" s_lets ["machine", "room", "row"] := src_mk (PySem.W.mg_of X G a9) l9 c9 k9 fun _ _ _ _ _ _ us hl => match us, hl with | [_, _, _], _ => rfl
  have B10 : Src K mg "_law_take" s__law_take ["_law_pen", "_law_many"] := src_mk (PySem.W.mg_of X G a10) l10 c10 k10 fun _ _ _ _ _ _ us hl => match us, hl with | [_, _], _ => rfl
  have B11 : Src K mg "_law_cell" s__law_cell ["_law_pen", "_law_many", "_law_share", "_law_kinds"] := src_mk (PySem.W.mg_of X G a11) l11 c11 k11 fun _ _ _ _ _ _ us hl => match us, hl with | [_, _, _, _], _ => rfl
  have B12 : Src K mg "_law_near" s__law_near ["_law_pen", "_law_room", "_law_many", "_law_kinds"] := src_mk (PySem.W.mg_of X G a12) l12 c12 k12 fun _ _ _ _ _ _ us hl => match us, hl with | [_, _, _, _], _ => rfl
  have B13 : Src K mg "_law_machine" s__law_machine ["_law_pen", "_law_most"] := src_mk (PySem.W.mg_of X G a13) l13 c13 k13 fun _ _ _ _ _ _ us hl => match us, hl with | [_, _], _ => rfl
  have B14 : Src K mg "_law_unlike" s__law_unlike ["_law_machine_here", "_law_one", "_law_other", "_law_ask"] := src_mk (PySem.W.mg_of X G a14) l14 c14 k14 fun _ _ _ _ _ _ us hl => match us, hl with | [_, _, _, _], _ => rfl
  have B15 : Src K mg "_law_both" s__law_both ["_law_machine_here", "_law_one", "_law_other", "_law_ask"] := src_mk (PySem.W.mg_of X G a15) l15 c15 k15 fun _ _ _ _ _ _ us hl => match us, hl with | [_, _, _, _], _ => rfl
  have B16 : Src K mg "_law_rings" s__law_rings ["_law_pen"] := src_mk (PySem.W.mg_of X G a16) l16 c16 k16 fun _ _ _ _ _ _ us hl => match us, hl with | [_], _ => rfl
  have B17 : Src K mg "_law_steps" s__law_steps ["_law_rings_here", "_law_spots", "_law_i", "_law_j"] := src_mk (PySem.W.mg_of X G a17) l17 c17 k17 fun _ _ _ _ _ _ us hl => match us, hl with | [_, _, _, _], _ => rfl
  have B18 : Src K mg "_law_said" s__law_said ["_law_machine_here", "_law_one", "_law_other", "_law_row"] := src_mk (PySem.W.mg_of X G a18) l18 c18 k18 fun _ _ _ _ _ _ us hl => match us, hl with | [_, _, _, _], _ => rfl
  have B19 : Src K mg "_law_rings_right" s__law_rings_right ["_law_pen"] := src_mk (PySem.W.mg_of X G a19) l19 c19 k19 fun _ _ _ _ _ _ us hl => match us, hl with | [_], _ => rfl
  have B20 : Src K mg "_law_far" s__law_far ["_law_machine_here"] := src_mk (PySem.W.mg_of X G a20) l20 c20 k20 fun _ _ _ _ _ _ us hl => match us, hl with | [_], _ => rfl
  have B21 : Src K mg "_law_first" s__law_first ["_law_machine_here", "_law_far_here", "_law_one", "_law_other"] := src_mk (PySem.W.mg_of X G a21) l21 c21 k21 fun _ _ _ _ _ _ us hl => match us, hl with | [_, _, _, _], _ => rfl
  have B22 : Src K mg "_law_late_right" s__law_late_right ["_law_pen"] := src_mk (PySem.W.mg_of X G a22) l22 c22 k22 fun _ _ _ _ _ _ us hl => match us, hl with | [_], _ => rfl
  have B23 : Src K mg "law" s_law ["_law_script"] := src_mk (PySem.W.mg_of X G a23) l23 c23 k23 fun _ _ _ _ _ _ us hl => match us, hl with | [_], _ => rfl
  have e := hfa.symm.trans (PySem.W.mg_of X G a23)
  cases e
  refine ⟨PySem.W.fnOf "law" "law" (defArgs s_law) (defBody s_law) (defScope s_law) .none kV23 dc23 pm23 an23 cd23 ct23, fun s v => .of_eq rfl, fun base _ _ => ?_⟩
  have FL := fun_mk (st := s_law) l23 c23 k23
  exact ok_all T B0 B1 B2 B3 B4 B5 B6 B7 B8 B9 B10 B11 B12 B13 B14 B15 B16 B17 B18 B19 B20 B21 B22 FL
end L09
open PySem PySem.W PyProof.Rows
set_option maxRecDepth 100000 in
set_option maxHeartbeats 0 in
theorem PySem.Challenge.cw_opencells_k09_whole_long_rows_holds : PySem.Challenge.rw_opencells_k09_whole_long_rows.Holds := by
  w_on; o_law; k_head; (case hw => w_witness2)
  k_fill
  refine Oc.walk_ofG (l := PySem.Challenge.rw_opencells_k09_whole_long_rows) (k := 6) (x := "_law_script") rfl rfl ⟨rfl, by decide, by decide⟩ (fun w h Y => PySem.W.kIn_of Y) ?F
  case F =>
    intro w mg fa h KX G hmg
    refine' L09.all_mk KX G hmg ?a0 ?l0 ?c0 ?k0 ?a1 ?l1 ?c1 ?k1 ?a2 ?l2 ?c2 ?k2 ?a3 ?l3 ?c3 ?k3 ?a4 ?l4 ?c4 ?k4 ?a5 ?l5 ?c5 ?k5 ?a6 ?l6 ?c6 ?k6 ?a7 ?l7 ?c7 ?k7 ?a8 ?l8 ?c8 ?k8 ?a9 ?l9 ?c9 ?k9 ?a10 ?l10 ?c10 ?k10 ?a11 ?l11 ?c11 ?k11 ?a12 ?l12 ?c12 ?k12 ?a13 ?l13 ?c13 ?k13 ?a14 ?l14 ?c14 ?k14 ?a15 ?l15 ?c15 ?k15 ?a16 ?l16 ?c16 ?k16 ?a17 ?l17 ?c17 ?k17 ?a18 ?l18 ?c18 ?k18 ?a19 ?l19 ?c19 ?k19 ?a20 ?l20 ?c20 ?k20 ?a21 ?l21 ?c21 ?k21 ?a22 ?l22 ?c22 ?k22 ?a23 ?l23 ?c23 ?k23 ?z_len ?z_tuple ?z_range ?z_list ?z_zip ?z_any ?z_repr ?z_enumerate ?z_abs ?z_sorted ?z_int ?z_min ?z_max
    (case a0 => k_is); (case l0 => k_is); (case c0 => k_is); (case k0 => k_is); (case a1 => k_is); (case l1 => k_is); (case c1 => k_is); (case k1 => k_is); (case a2 => k_is); (case l2 => k_is); (case c2 => k_is); (case k2 => k_is); (case a3 => k_is); (case l3 => k_is); (case c3 => k_is); (case k3 => k_is); (case a4 => k_is); (case l4 => k_is); (case c4 => k_is); (case k4 => k_is); (case a5 => k_is); (case l5 => k_is); (case c5 => k_is); (case k5 => k_is); (case a6 => k_is); (case l6 => k_is); (case c6 => k_is); (case k6 => k_is); (case a7 => k_is); (case l7 => k_is); (case c7 => k_is); (case k7 => k_is); (case a8 => k_is); (case l8 => k_is); (case c8 => k_is); (case k8 => k_is); (case a9 => k_is); (case l9 => k_is); (case c9 => k_is); (case k9 => k_is); (case a10 => k_is); (case l10 => k_is); (case c10 => k_is); (case k10 => k_is); (case a11 => k_is); (case l11 => k_is); (case c11 => k_is); (case k11 => k_is); (case a12 => k_is); (case l12 => k_is); (case c12 => k_is); (case k12 => k_is); (case a13 => k_is); (case l13 => k_is); (case c13 => k_is); (case k13 => k_is); (case a14 => k_is); (case l14 => k_is); (case c14 => k_is); (case k14 => k_is); (case a15 => k_is); (case l15 => k_is); (case c15 => k_is); (case k15 => k_is); (case a16 => k_is); (case l16 => k_is); (case c16 => k_is); (case k16 => k_is); (case a17 => k_is); (case l17 => k_is); (case c17 => k_is); (case k17 => k_is); (case a18 => k_is); (case l18 => k_is); (case c18 => k_is); (case k18 => k_is); (case a19 => k_is); (case l19 => k_is); (case c19 => k_is); (case k19 => k_is); (case a20 => k_is); (case l20 => k_is); (case c20 => k_is); (case k20 => k_is); (case a21 => k_is); (case l21 => k_is); (case c21 => k_is); (case k21 => k_is); (case a22 => k_is); (case l22 => k_is); (case c22 => k_is); (case k22 => k_is); (case a23 => k_is); (case l23 => k_is); (case c23 => k_is); (case k23 => k_is); (case z_len => k_is); (case z_tuple => k_is); (case z_range => k_is); (case z_list => k_is); (case z_zip => k_is); (case z_any => k_is); (case z_repr => k_is); (case z_enumerate => k_is); (case z_abs => k_is); (case z_sorted => k_is); (case z_int => k_is); (case z_min => k_is); (case z_max => k_is)
