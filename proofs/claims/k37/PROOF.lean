import PyProof.Rows.All
import Wide.All
import OpenK.AllK
import Wide.FinOn
import KE.KExcLine
import HandS.ForMost
import HandS.Evl
import HandS.Lambda
import KE.GoesNew
import HandS.IsInst
import HandS.TupAny
import HandS.Wide
import HandS.Ends
import PyProof.Rows.ReprR
import HandS.Text
import HandS.SortInts
import HandS.TupMul
import PyProof.ReprBulk
import PyProof.Rows.ReprShort
import HandS.TupLe
import PyProof.P3Eq
import HandS.Rev
import KE.GoesMore
import HandS.Conv
import HandS.More
import PyProof.StrOps2
import KE.KDictDisplayH
import PyProof.DictMoreH
import HandS.SortRule
import HandS.Iter
import HandS.TryOnly
import KE.KDictKeyed
import KE.DataMinMax
import HandS.Zip
import HandS.Deep
import HandS.TupLen
import KE.DataCmp
import HandS.SetFor
import HandS.Strs
import HandS.Style
import HandS.SortOrd
import KE.SortData
import KE.BitLaws
import HandS.Exc
import HandS.ExcOwn
import HandS.ExcIs
import HandS.WordsExc
import KE.KIndexOf
import KE.DataFind
import HandS.EndTab
import HandS.ExcInit
import HandS.ExcField
import PySem.Challenge.RW_opencells_k37_clashes_and_too_many
set_option Elab.async false
set_option autoImplicit false
set_option linter.all false
set_option maxRecDepth 100000
set_option maxHeartbeats 4000000
/-! Own layer, part 1: data as values (D), mutable cells (Mu), and a calculus of weakest preconditions over HandS. -/
namespace Oc
open PySem PySem.Spec L2
open Evl (Ex)

inductive D where
  | non | bl (b : Bool) | int (i : Int) | str (x : Str) | tup (l : List D) | tpl (l : List D) | lst (l : List D) | scr (l : List D) | ptr (a : Addr) | ty (n : String) | dct (ks : List (List Key)) (vs : List D)
/-- the content of a mutable cell -/
inductive MO where
  | lst (l : List D) | dk (l : List (Key × D)) | dt (l : List (List Key × D)) | la (P : List D → Prop) | ka (P : List (Key × D) → Prop) | exc (C : Addr) (ks : List Str) (vs : List D) | tab (q : Str)
/-- the written part, and the ground: what stands still since the def began -/
structure KF where
  k : PySem.W.Frag
  g : Hp
instance : Coe KF PySem.W.Frag := ⟨KF.k⟩
/-- a context with its ground -/
structure Cy where
  c : Cx
  g : Hp
instance : Coe Cy Cx := ⟨Cy.c⟩
namespace Cy
abbrev K (X : Cy) : KF := ⟨X.c.K, X.g⟩
abbrev prog (X : Cy) := X.c.prog
abbrev w (X : Cy) := X.c.w
abbrev mg (X : Cy) := X.c.mg
abbrev base (X : Cy) := X.c.base
abbrev A (X : Cy) := X.c.A
abbrev N (X : Cy) := X.c.N
abbrev s_0 (X : Cy) := X.c.s_0
abbrev H_0 (X : Cy) := X.c.H_0
abbrev env (X : Cy) := X.c.env
abbrev outer (X : Cy) := X.c.outer
abbrev stack (X : Cy) := X.c.stack
abbrev ex (X : Cy) := X.c.ex
abbrev fn (X : Cy) := X.c.fn
abbrev calm (X : Cy) := X.c.calm
abbrev pn (X : Cy) := X.c.pn
abbrev xe (X : Cy) := X.c.xe
abbrev fs (X : Cy) := X.c.fs
end Cy
abbrev Rho := List (Option D)
abbrev Mu := List (Addr × MO)

mutual
inductive Rep (K : PySem.W.Frag) (F : Hp) : V → D → Prop
  | non : Rep K F .non .non
  | bl (b : Bool) : Rep K F (.bl b) (.bl b)
  | int (i : Int) : Rep K F (.int i) (.int i)
  | str (x : Str) : Rep K F (.str x) (.str x)
  | tup {a : Addr} {xs : List V} {ds : List D} : F a = some (.tup xs) → Reps K F xs ds → Rep K F (.ref a) (.tup ds)
  | tpl {a : Addr} {o : Obj} {xs : List V} {ds : List D} : F a = some (.frz o (.tup xs)) → o.cls = .type "tuple" → o.dict = none → Reps K F xs ds → Rep K F (.ref a) (.tpl ds)
  | lst {a : Addr} {xs : List V} {ds : List D} : F a = some (.lst xs) → Reps K F xs ds → Rep K F (.ref a) (.lst ds)
  | scr {a : Addr} {xs : List V} {ds : List D} : SqL K F a xs → Reps K F xs ds → Rep K F (.ref a) (.scr ds)
  | ty (n : String) : Rep K F (.ty n) (.ty n)
  | ptr (a : Addr) : Rep K F (.ref a) (.ptr a)
  | dct {a : Addr} {o : Obj} {kvs : List (List Key × V)} {ks : List (List Key)} {vs : List D} : F a = some (.frz o (.dT kvs)) → kvs.map (·.1) = ks → Reps K F (kvs.map (·.2)) vs → Rep K F (.ref a) (.dct ks vs)
inductive Reps (K : PySem.W.Frag) (F : Hp) : List V → List D → Prop
  | nil : Reps K F [] []
  | cons {v : V} {vs : List V} {d : D} {ds : List D} : Rep K F v d → Reps K F vs ds → Reps K F (v :: vs) (d :: ds)
end
section
variable {K : PySem.W.Frag} {F F' H H' : Hp}
mutual
theorem Rep.mono (e : Ex F F') : ∀ {v : V} {d : D}, Rep K F v d → Rep K F' v d
  | _, _, .non => .non
  | _, _, .bl b => .bl b
  | _, _, .int i => .int i
  | _, _, .str x => .str x
  | _, _, .tup h r => .tup (e _ _ h) (Reps.mono e r)
  | _, _, .tpl h c n r => .tpl (e _ _ h) c n (Reps.mono e r)
  | _, _, .lst h r => .lst (e _ _ h) (Reps.mono e r)
  | _, _, .scr h r => .scr (Evl.ex_l e h) (Reps.mono e r)
  | _, _, .ty n => .ty n
  | _, _, .ptr a => .ptr a
  | _, _, .dct h e2 r => .dct (e _ _ h) e2 (Reps.mono e r)
theorem Reps.mono (e : Ex F F') : ∀ {v : List V} {d : List D}, Reps K F v d → Reps K F' v d
  | _, _, .nil => .nil
  | _, _, .cons h r => .cons (Rep.mono e h) (Reps.mono e r)
end
theorem Reps.length : ∀ {v : List V} {d : List D}, Reps K F v d → v.length = d.length
  | _, _, .nil => rfl
  | _, _, .cons _ r => congrArg (· + 1) (Reps.length r)
theorem Reps.get : ∀ {v : List V} {d : List D} {i : Nat} {x : D}, Reps K F v d → d[i]? = some x → ∃ y, v[i]? = some y ∧ Rep K F y x
  | _, _, _, _, .nil, h => by simp at h
  | _, _, 0, _, .cons h _, e => by simp at e; subst e; exact ⟨_, rfl, h⟩
  | _, _, i + 1, x, .cons _ r, e => by
    obtain ⟨y, h1, h2⟩ := Reps.get (i := i) (x := x) r (by simpa using e)
    exact ⟨y, by simpa using h1, h2⟩
theorem Reps.getV : ∀ {v : List V} {d : List D} {i : Nat} {y : V}, Reps K F v d → v[i]? = some y → ∃ x, d[i]? = some x ∧ Rep K F y x
  | _, _, _, _, .nil, h => by simp at h
  | _, _, 0, _, .cons h _, e => by simp at e; subst e; exact ⟨_, rfl, h⟩
  | _, _, i + 1, x, .cons _ r, e => by
    obtain ⟨y, h1, h2⟩ := Reps.getV (i := i) (y := x) r (by simpa using e)
    exact ⟨y, by simpa using h1, h2⟩
theorem Reps.append : ∀ {v w : List V} {d e : List D}, Reps K F v d → Reps K F w e → Reps K F (v ++ w) (d ++ e)
  | _, _, _, _, .nil, s => s
  | _, _, _, _, .cons r t, s => .cons r (Reps.append t s)
theorem Reps.one {v : V} {d : D} (h : Rep K F v d) : Reps K F [v] [d] := .cons h .nil
theorem Reps.take : ∀ {v : List V} {d : List D} (n : Nat), Reps K F v d → Reps K F (v.take n) (d.take n)
  | _, _, 0, _ => .nil
  | _, _, _ + 1, .nil => .nil
  | _, _, n + 1, .cons r t => .cons r (Reps.take n t)
theorem Reps.drop : ∀ {v : List V} {d : List D} (n : Nat), Reps K F v d → Reps K F (v.drop n) (d.drop n)
  | _, _, 0, r => r
  | _, _, _ + 1, .nil => .nil
  | _, _, n + 1, .cons _ t => Reps.drop n t
theorem Reps.set {x : V} {u : D} (r : Rep K F x u) : ∀ {xs : List V} {us : List D} (i : Nat), Reps K F xs us → Reps K F (xs.set i x) (us.set i u)
  | _, _, _, .nil => .nil
  | _, _, 0, .cons _ t => .cons r t
  | _, _, i + 1, .cons q t => .cons q (Reps.set r i t)
theorem Reps.reverse {v : List V} {d : List D} (h : Reps K F v d) : Reps K F v.reverse d.reverse := by
  induction d generalizing v with
  | nil => cases h; exact .nil
  | cons a l ih => cases h with | cons h r => rw [List.reverse_cons, List.reverse_cons]; exact (ih r).append (.one h)
theorem reps_map {α : Type} {f : α → V} {g : α → D} (h : ∀ a, Rep K F (f a) (g a)) : ∀ l : List α, Reps K F (l.map f) (l.map g)
  | [] => .nil
  | a :: l => .cons (h a) (reps_map h l)
/-- what a list of known kind is -/
theorem reps_ints : ∀ {vs : List V} {ns : List Int}, Reps K F vs (ns.map D.int) → vs = ns.map V.int
  | _, [], .nil => rfl
  | _, n :: ns, .cons h r => by
    cases h
    rw [List.map_cons, ← reps_ints r]
theorem reps_strs : ∀ {vs : List V} {ns : List Str}, Reps K F vs (ns.map D.str) → vs = ns.map V.str
  | _, [], .nil => rfl
  | _, n :: ns, .cons h r => by
    cases h
    rw [List.map_cons, ← reps_strs r]
theorem reps_bools : ∀ {vs : List V} {ns : List Bool}, Reps K F vs (ns.map D.bl) → vs = ns.map V.bl
  | _, [], .nil => rfl
  | _, n :: ns, .cons h r => by
    cases h
    rw [List.map_cons, ← reps_bools r]

def RepK {κ : Type} (K : PySem.W.Frag) (F : Hp) : List (κ × D) → List (κ × V) → Prop := Paired fun p q => p.1 = q.1 ∧ Rep K F q.2 p.2
theorem RepK.mono {κ : Type} (e : Ex F F') {ds : List (κ × D)} {kvs : List (κ × V)} (h : RepK K F ds kvs) : RepK K F' ds kvs := Paired.mapP h fun _ _ z => ⟨z.1, z.2.mono e⟩
/-- a table of code objects: each of them bears the name q -/
def TabP (F : Hp) (q : Str) (ps : Array Value) : Prop := TriplesOk ps.toList ∧ ∀ (p : Pos) (u : Value), codeAmong p ps.toList = some u → ∃ c, u = .ref c ∧ F c = some (LamX.CodeO c q)
theorem TabP.mono {F F' : Hp} (e : Ex F F') {q : Str} {ps : Array Value} (h : TabP F q ps) : TabP F' q ps := ⟨h.1, fun p u hu => by
  obtain ⟨c, h1, h2⟩ := h.2 p u hu
  exact ⟨c, h1, e _ _ h2⟩⟩
inductive RepO (K : PySem.W.Frag) (F : Hp) : MO → HO → Prop
  | tab {q : Str} {ps : Array Value} : TabP F q ps → RepO K F (.tab q) (.tbl ps)
  | lst {ds : List D} {xs : List V} : Reps K F xs ds → RepO K F (.lst ds) (.lst xs)
  | dk {ds : List (Key × D)} {kvs : List (Key × V)} : RepK K F ds kvs → RepO K F (.dk ds) (.dK kvs)
  | dt {ds : List (List Key × D)} {kvs : List (List Key × V)} : RepK K F ds kvs → RepO K F (.dt ds) (.dT kvs)
  | la {P : List D → Prop} {ds : List D} {xs : List V} : P ds → Reps K F xs ds → RepO K F (.la P) (.lst xs)
  | ka {P : List (Key × D) → Prop} {ds : List (Key × D)} {kvs : List (Key × V)} : P ds → RepK K F ds kvs → RepO K F (.ka P) (.dK kvs)
  | exc {C : Addr} {o : Obj} {u : HO} {fs : Array Value} : o.cls = .ref C → o.dict = none → o.data = .fields fs → RepO K F (.exc C [] []) (.frz o u)
  | excF {C d : Addr} {o : Obj} {u : HO} {fs : Array Value} {kvs : List (Str × V)} {ks : List Str} {vs : List D} : o.cls = .ref C → o.dict = some d → o.data = .fields fs → F d = some (.xd kvs) → kvs.map (·.1) = ks → Reps K F (kvs.map (·.2)) vs → ks ≠ [] → RepO K F (.exc C ks vs) (.frz o u)
theorem RepO.mono (e : Ex F F') {o : MO} {u : HO} (h : RepO K F o u) : RepO K F' o u := by
  cases h with
  | tab t => exact .tab (t.mono e)
  | lst r => exact .lst (r.mono e)
  | dk r => exact .dk (r.mono e)
  | dt r => exact .dt (r.mono e)
  | la p r => exact .la p (r.mono e)
  | ka p r => exact .ka p (r.mono e)
  | exc h1 h2 h3 => exact .exc h1 h2 h3
  | excF h1 h2 h3 h4 e2 r ne => exact .excF h1 h2 h3 (e _ _ h4) e2 (r.mono e) ne

/-- the heap H: F stands still, the cells of μ may change -/
structure Hs (K : KF) (F : Hp) (μ : Mu) (H : Hp) : Prop where
  ex : Ex F H
  nd : (μ.map (·.1)).Nodup
  mu : ∀ a o, (a, o) ∈ μ → F a = none ∧ ∃ u, H a = some u ∧ RepO K F o u
  gr : Ex K.g F
/-- the slots -/
structure Sl (K : PySem.W.Frag) (F : Hp) (ρ : Rho) (σ : St) : Prop where
  len : ρ.length = σ.length
  at_ : ∀ (i : Nat) (d : D), ρ[i]? = some (some d) → ∃ v, σ[i]? = some (some v) ∧ Rep K F v d
variable {μ : Mu} {ρ : Rho} {σ : St}
theorem Sl.mono (e : Ex F F') (s : Sl K F ρ σ) : Sl K F' ρ σ := ⟨s.len, fun i d h => by
  obtain ⟨v, h1, h2⟩ := s.at_ i d h
  exact ⟨v, h1, h2.mono e⟩⟩
theorem Sl.set {v : V} {d : D} (s : Sl K F ρ σ) (i : Nat) (r : Rep K F v d) : Sl K F (ρ.set i (some d)) (σ.set i (some v)) := ⟨by rw [List.length_set, List.length_set]; exact s.len, fun j e h => by
  by_cases hj : i = j
  · subst hj
    by_cases hl : i < ρ.length
    · rw [List.getElem?_set_self hl] at h
      rw [List.getElem?_set_self (by rw [← s.len]; exact hl)]
      cases h
      exact ⟨v, rfl, r⟩
    · rw [List.getElem?_eq_none (by rw [List.length_set]; omega)] at h
      cases h
  · rw [List.getElem?_set_ne hj] at h ⊢
    exact s.at_ j e h⟩
theorem Sl.wipe (s : Sl K F ρ σ) (i : Nat) : Sl K F (ρ.set i none) (σ.set i none) := ⟨by rw [List.length_set, List.length_set]; exact s.len, fun j e h => by
  by_cases hj : i = j
  · subst hj
    by_cases hl : i < ρ.length
    · rw [List.getElem?_set_self hl] at h
      cases h
    · rw [List.getElem?_eq_none (by rw [List.length_set]; omega)] at h
      cases h
  · rw [List.getElem?_set_ne hj] at h ⊢
    exact s.at_ j e h⟩
theorem Sl.forget (s : Sl K F ρ σ) (i : Nat) : Sl K F (ρ.set i none) σ := ⟨by rw [List.length_set]; exact s.len, fun j e h => by
  by_cases hj : i = j
  · subst hj
    by_cases hl : i < ρ.length
    · rw [List.getElem?_set_self hl] at h
      cases h
    · rw [List.getElem?_eq_none (by rw [List.length_set]; omega)] at h
      cases h
  · rw [List.getElem?_set_ne hj] at h
    exact s.at_ j e h⟩
end
section
variable {K : KF} {F F' H H' : Hp} {μ : Mu} {ρ : Rho} {σ : St}
theorem mem_of_get {α : Type} {l : List α} {i : Nat} {x : α} (h : l[i]? = some x) : x ∈ l := List.mem_of_getElem? h
theorem Hs.at_ (h : Hs K F μ H) {i : Nat} {p : Addr} {o : MO} (e : μ[i]? = some (p, o)) : F p = none ∧ ∃ u, H p = some u ∧ RepO K F o u := h.mu p o (mem_of_get e)
theorem Hs.lst (h : Hs K F μ H) {i : Nat} {p : Addr} {ds : List D} (e : μ[i]? = some (p, .lst ds)) : ∃ xs, H p = some (.lst xs) ∧ Reps K F xs ds := by
  obtain ⟨_, u, h1, h2⟩ := h.at_ e
  cases h2 with
  | lst r => exact ⟨_, h1, r⟩
theorem Hs.dk (h : Hs K F μ H) {i : Nat} {p : Addr} {ds : List (Key × D)} (e : μ[i]? = some (p, .dk ds)) : ∃ kvs, H p = some (.dK kvs) ∧ RepK K F ds kvs := by
  obtain ⟨_, u, h1, h2⟩ := h.at_ e
  cases h2 with
  | dk r => exact ⟨_, h1, r⟩
theorem Hs.dt (h : Hs K F μ H) {i : Nat} {p : Addr} {ds : List (List Key × D)} (e : μ[i]? = some (p, .dt ds)) : ∃ kvs, H p = some (.dT kvs) ∧ RepK K F ds kvs := by
  obtain ⟨_, u, h1, h2⟩ := h.at_ e
  cases h2 with
  | dt r => exact ⟨_, h1, r⟩
/-- the still part grows where H has it -/
theorem Hs.still (h : Hs K F μ H) {p : Addr} {u : HO} (hp : F p = none) (hu : H p = some u) (hm : ∀ o, (p, o) ∉ μ) : Hs K (upd F p u) μ H ∧ Ex F (upd F p u) := by
  have e : Ex F (upd F p u) := Ex.new hp
  refine ⟨⟨fun a o q => ?_, h.nd, fun a o q => ?_, h.gr.trans e⟩, e⟩
  · by_cases ha : a = p
    · subst ha; rw [upd_same] at q; cases q; exact hu
    · rw [upd_ne ha] at q; exact h.ex a o q
  · obtain ⟨h1, w, h2, h3⟩ := h.mu a o q
    have ha : a ≠ p := fun z => by subst z; exact hm o q
    exact ⟨by rw [upd_ne ha]; exact h1, w, h2, h3.mono e⟩
theorem Hs.fresh (h : Hs K F μ H) {p : Addr} (hp : H p = none) : F p = none ∧ ∀ o, (p, o) ∉ μ := ⟨Evl.fresh_back h.ex hp, fun o q => by
  obtain ⟨_, w, h2, _⟩ := h.mu p o q
  rw [hp] at h2; cases h2⟩
/-- a new object that stands still -/
theorem Hs.laid (h : Hs K F μ H) {p : Addr} {u : HO} (hp : H p = none) : Hs K (upd F p u) μ (upd H p u) ∧ Ex F (upd F p u) := by
  obtain ⟨h1, h2⟩ := h.fresh hp
  have e : Ex F (upd F p u) := Ex.new h1
  refine ⟨⟨fun a o q => ?_, h.nd, fun a o q => ?_, h.gr.trans e⟩, e⟩
  · by_cases ha : a = p
    · subst ha; rw [upd_same] at q ⊢; exact q
    · rw [upd_ne ha] at q ⊢; exact h.ex a o q
  · obtain ⟨h3, w, h4, h5⟩ := h.mu a o q
    have ha : a ≠ p := fun z => by subst z; exact h2 o q
    exact ⟨by rw [upd_ne ha]; exact h3, w, by rw [upd_ne ha]; exact h4, h5.mono e⟩
/-- a new cell -/
theorem Hs.cell (h : Hs K F μ H) {p : Addr} {u : HO} {o : MO} (hp : H p = none) (r : RepO K F o u) : Hs K F ((p, o) :: μ) (upd H p u) := by
  obtain ⟨h1, h2⟩ := h.fresh hp
  refine ⟨h.ex.trans (Ex.new hp), ?_, fun a q z => ?_, h.gr⟩
  · rw [List.map_cons, List.nodup_cons]
    refine ⟨fun z => ?_, h.nd⟩
    obtain ⟨⟨a, q⟩, hm, e⟩ := List.mem_map.mp z
    subst e
    exact h2 q hm
  · rcases List.mem_cons.mp z with e | e
    · cases e
      exact ⟨h1, u, upd_same, r⟩
    · obtain ⟨h3, w, h4, h5⟩ := h.mu a q e
      have ha : a ≠ p := fun z => by subst z; exact h2 q e
      exact ⟨h3, w, by rw [upd_ne ha]; exact h4, h5⟩
theorem nodup_get {μ : Mu} (nd : (μ.map (·.1)).Nodup) {i j : Nat} {p : Addr} {o u : MO} (h1 : μ[i]? = some (p, o)) (h2 : μ[j]? = some (p, u)) : i = j := by
  have e1 : (μ.map (·.1))[i]? = some p := by rw [List.getElem?_map, h1]; rfl
  have e2 : (μ.map (·.1))[j]? = some p := by rw [List.getElem?_map, h2]; rfl
  obtain ⟨l1, g1⟩ := List.getElem?_eq_some_iff.mp e1
  obtain ⟨l2, g2⟩ := List.getElem?_eq_some_iff.mp e2
  exact (List.getElem_inj nd).mp (g1.trans g2.symm)
theorem map_set_fst {μ : Mu} {i : Nat} {p : Addr} {o u : MO} (h : μ[i]? = some (p, o)) : ((μ.set i (p, u)).map (·.1)) = μ.map (·.1) := by
  rw [List.map_set]
  apply List.ext_getElem?
  intro j
  by_cases hj : i = j
  · subst hj
    have hl : i < (μ.map (·.1)).length := by rw [List.length_map]; exact (List.getElem?_eq_some_iff.mp h).1
    rw [List.getElem?_set_self hl, List.getElem?_map, h]
    rfl
  · rw [List.getElem?_set_ne hj]
/-- a cell is written -/
theorem Hs.write (h : Hs K F μ H) {i : Nat} {p : Addr} {u : HO} {o o' : MO} (e : μ[i]? = some (p, o)) (r : RepO K F o' u) : Hs K F (μ.set i (p, o')) (upd H p u) := by
  obtain ⟨h1, _, h2, _⟩ := h.at_ e
  have hl : i < μ.length := (List.getElem?_eq_some_iff.mp e).1
  refine ⟨fun a q z => ?_, by rw [map_set_fst e]; exact h.nd, fun a q z => ?_, h.gr⟩
  · have ha : a ≠ p := ne_of_none z h1
    rw [upd_ne ha]; exact h.ex a q z
  · obtain ⟨j, hj, ej⟩ := List.mem_iff_getElem.mp z
    by_cases hij : i = j
    · subst hij
      rw [List.getElem_set_self] at ej
      cases ej
      exact ⟨h1, u, upd_same, r⟩
    · rw [List.getElem_set_ne hij] at ej
      have hj' : j < μ.length := by rw [List.length_set] at hj; exact hj
      have ej' : μ[j]? = some (a, q) := by rw [List.getElem?_eq_getElem hj', ej]
      obtain ⟨h3, w, h4, h5⟩ := h.mu a q (mem_of_get ej')
      have ha : a ≠ p := fun z => by
        subst z
        exact hij (nodup_get h.nd e ej')
      exact ⟨h3, w, by rw [upd_ne ha]; exact h4, h5⟩
/-- cells forgotten -/
theorem Hs.sub {μ' : Mu} (h : Hs K F μ H) (s : μ'.Sublist μ) : Hs K F μ' H := ⟨h.ex, h.nd.sublist (s.map _), fun a o q => h.mu a o (s.subset q), h.gr⟩
/-- a list's cell stands still from now on -/
theorem Hs.freeze (h : Hs K F μ H) {i : Nat} {p : Addr} {ds : List D} (e : μ[i]? = some (p, .lst ds)) : ∃ F', Ex F F' ∧ Hs K F' (μ.eraseIdx i) H ∧ Rep K F' (.ref p) (.lst ds) := by
  obtain ⟨h1, _⟩ := h.at_ e
  obtain ⟨xs, h2, h3⟩ := h.lst e
  have hs := h.sub (List.eraseIdx_sublist μ i)
  have hn : ∀ o, (p, o) ∉ μ.eraseIdx i := fun o z => by
    have hl : i < μ.length := (List.getElem?_eq_some_iff.mp e).1
    obtain ⟨j, hj, ne⟩ := List.mem_eraseIdx_iff_getElem?.mp z
    exact hj (nodup_get h.nd ne e)
  obtain ⟨q1, q2⟩ := hs.still h1 h2 hn
  exact ⟨_, q2, q1, .lst upd_same (h3.mono q2)⟩
theorem Hs.of_still {H : Hp} (e : Ex K.g H) : Hs K H [] H := ⟨Ex.refl H, List.nodup_nil, fun a o z => (by cases z), e⟩
end

/-- what follows a value -/
def Kont (K : KF) (F : Hp) (Φ : D → Mu → Prop) (Q : VK) : Prop := ∀ v F' H' d μ', Φ d μ' → Ex F F' → Hs K F' μ' H' → Rep K F' v d → Q v H'
def KontA (K : KF) (F : Hp) (Φ : List D → Mu → Prop) (Q : List V → Hp → Prop) : Prop := ∀ v F' H' d μ', Φ d μ' → Ex F F' → Hs K F' μ' H' → Reps K F' v d → Q v H'
def KontT (K : KF) (F : Hp) (Φ : Bool → Mu → Prop) (Q : Bool → Hp → Prop) : Prop := ∀ b F' H' μ', Φ b μ' → Ex F F' → Hs K F' μ' H' → Q b H'
def KontS (K : KF) (F : Hp) (Φ : Rho → Mu → Prop) (Q : St → Hp → Prop) : Prop := ∀ F' H' σ' ρ' μ', Φ ρ' μ' → Ex F F' → Hs K F' μ' H' → Sl K F' ρ' σ' → Q σ' H'
structure En where
  nx : Rho → Mu → Prop
  rt : D → Mu → Prop
  bk : Rho → Mu → Prop := fun _ _ => False
  ct : Rho → Mu → Prop := fun _ _ => False
structure KontE (K : KF) (F : Hp) (E : En) (D : Ends) : Prop where
  nx : KontS K F E.nx D.nx
  rt : Kont K F E.rt D.rt
  bk : KontS K F E.bk D.bk
  ct : KontS K F E.ct D.ct
section
variable {K : KF} {F F' : Hp}
theorem Kont.mono (e : Ex F F') {Φ : D → Mu → Prop} {Q : VK} (k : Kont K F Φ Q) : Kont K F' Φ Q := fun v F1 H1 d μ1 h x => k v F1 H1 d μ1 h (e.trans x)
theorem KontA.mono (e : Ex F F') {Φ : List D → Mu → Prop} {Q : List V → Hp → Prop} (k : KontA K F Φ Q) : KontA K F' Φ Q := fun v F1 H1 d μ1 h x => k v F1 H1 d μ1 h (e.trans x)
theorem KontT.mono (e : Ex F F') {Φ : Bool → Mu → Prop} {Q : Bool → Hp → Prop} (k : KontT K F Φ Q) : KontT K F' Φ Q := fun v F1 H1 μ1 h x => k v F1 H1 μ1 h (e.trans x)
theorem KontS.mono (e : Ex F F') {Φ : Rho → Mu → Prop} {Q : St → Hp → Prop} (k : KontS K F Φ Q) : KontS K F' Φ Q := fun F1 H1 s r μ1 h x => k F1 H1 s r μ1 h (e.trans x)
theorem KontE.mono (e : Ex F F') {E : En} {D : Ends} (k : KontE K F E D) : KontE K F' E D := ⟨k.nx.mono e, k.rt.mono e, k.bk.mono e, k.ct.mono e⟩
end

/-! ### what a piece of syntax does, as it stands -/
section
variable (X : Cy)
def sE (e : Expr) : TE := fun σ H Q => ∀ (pins : List (Addr × Obj)) (s : Shared), Inv X pins σ H s → wpAny (model X.prog X.w) X.A (eval e X.env) (EP X pins σ Q) X.xe s
def sT (e : Expr) : TT := fun σ H Q => ∀ (pins : List (Addr × Obj)) (s : Shared), Inv X pins σ H s → wpAny (model X.prog X.w) X.A (isTrue e X.env (eval e X.env)) (TP X pins σ Q) X.xe s
def sW (e : Expr) : TT := fun σ H Q => ∀ (whole : Sem Value) (pins : List (Addr × Obj)) (s : Shared), Inv X pins σ H s → wpAny (model X.prog X.w) X.A (isTrue e X.env whole) (TP X pins σ Q) X.xe s
def sA (es : List Expr) : TA := fun σ H Q => ∀ (pos : Pos) (pins : List (Addr × Obj)) (s : Shared), Inv X pins σ H s → wpAny (model X.prog X.w) X.A (spliced (backTo pos (starEach es X.env))) (AP X pins σ Q) X.xe s
def sS (st : Stmt) : TS := fun D σ H => ∀ (pins : List (Addr × Obj)) (s : Shared), Inv X pins σ H s → wpAny (model X.prog X.w) X.A (exec st X.env) (SP X pins D) X.xe s
def sSs (st : List Stmt) : TS := fun D σ H => ∀ (pins : List (Addr × Obj)) (s : Shared), Inv X pins σ H s → wpAny (model X.prog X.w) X.A (execs st X.env) (SP X pins D) X.xe s
def sG (tg : Expr) : TG := fun v σ H Q => ∀ (pins : List (Addr × Obj)) (s : Shared) (u : Value), Inv X pins σ H s → RelV v u → wpAny (model X.prog X.w) X.A (assign tg X.env u) (fun _ s' => ∃ σ' H', Inv X pins σ' H' s' ∧ Q σ' H') X.xe s
def sGs (ts : List Expr) : TGs := fun vs σ H Q => ∀ (pins : List (Addr × Obj)) (s : Shared) (us : List Value), Inv X pins σ H s → Vals vs us → wpAny (model X.prog X.w) X.A (assignInOrder ((assignEach ts X.env).map (·.2)) us) (fun _ s' => ∃ σ' H', Inv X pins σ' H' s' ∧ Q σ' H') X.xe s
def sI (tg iter : Expr) : TI := fun σ H R => ∀ (pins : List (Addr × Obj)) (s : Shared), Inv X pins σ H s → wpAny (model X.prog X.w) X.A (eval iter X.env) (fun v s1 => wpAny (model X.prog X.w) X.A (pyIter v) (PIE X pins σ tg R) X.xe s1) X.xe s
end
section
variable {X : Cy}
theorem pe_s {e : Expr} : PE X e (sE X e) := ⟨fun pins s σ H Q I h => h pins s I⟩
theorem pt_s {e : Expr} : PT X e (sT X e) := ⟨fun pins s σ H Q I h => h pins s I⟩
theorem pw_s {e : Expr} : PW X e (sW X e) := ⟨fun w pins s σ H Q I h => h w pins s I⟩
theorem pa_s {es : List Expr} : PA X es (sA X es) := ⟨fun pos pins s σ H Q I h => h pos pins s I⟩
theorem ps_s {st : Stmt} : PS X st (sS X st) := ⟨fun pins s σ H D I h => h pins s I⟩
theorem pss_s {st : List Stmt} : PSs X st (sSs X st) := ⟨fun pins s σ H D I h => h pins s I⟩
theorem pg_s {tg : Expr} : PG X tg (sG X tg) := ⟨fun pins s σ H v u Q I r h => h pins s u I r⟩
theorem pgs_s {tg : List Expr} : PGs X tg (sGs X tg) := ⟨fun pins s σ H v u Q I r h => h pins s u I r⟩
theorem pi_s {tg iter : Expr} : PI X tg iter (sI X tg iter) := ⟨fun pins s σ H R I h => h pins s I⟩
theorem se_of {e : Expr} {t : TE} (p : PE X e t) {σ : St} {H : Hp} {Q : VK} (h : t σ H Q) : sE X e σ H Q := fun pins s I => p.run pins s σ H Q I h
theorem st_of {e : Expr} {t : TT} (p : PT X e t) {σ : St} {H : Hp} {Q : Bool → Hp → Prop} (h : t σ H Q) : sT X e σ H Q := fun pins s I => p.run pins s σ H Q I h
theorem sw_of {e : Expr} {t : TT} (p : PW X e t) {σ : St} {H : Hp} {Q : Bool → Hp → Prop} (h : t σ H Q) : sW X e σ H Q := fun w pins s I => p.run w pins s σ H Q I h
theorem sa_of {e : List Expr} {t : TA} (p : PA X e t) {σ : St} {H : Hp} {Q : List V → Hp → Prop} (h : t σ H Q) : sA X e σ H Q := fun pos pins s I => p.run pos pins s σ H Q I h
theorem ss_of {e : Stmt} {t : TS} (p : PS X e t) {σ : St} {H : Hp} {D : Ends} (h : t D σ H) : sS X e D σ H := fun pins s I => p.run pins s σ H D I h
theorem sss_of {e : List Stmt} {t : TS} (p : PSs X e t) {σ : St} {H : Hp} {D : Ends} (h : t D σ H) : sSs X e D σ H := fun pins s I => p.run pins s σ H D I h
theorem sg_of {e : Expr} {t : TG} (p : PG X e t) {v : V} {σ : St} {H : Hp} {Q : St → Hp → Prop} (h : t v σ H Q) : sG X e v σ H Q := fun pins s u I r => p.run pins s σ H v u Q I r h
theorem sgs_of {e : List Expr} {t : TGs} (p : PGs X e t) {v : List V} {σ : St} {H : Hp} {Q : St → Hp → Prop} (h : t v σ H Q) : sGs X e v σ H Q := fun pins s u I r => p.run pins s σ H v u Q I r h
theorem si_of {tg e : Expr} {t : TI} (p : PI X tg e t) {σ : St} {H : Hp} {R : It → Hp → Prop} (h : t σ H R) : sI X tg e σ H R := fun pins s I => p.run pins s σ H R I h
end

/-! ### the calculus -/
section
variable (X : Cy)
def wE (e : Expr) (ρ : Rho) (μ : Mu) (Φ : D → Mu → Prop) : Prop := ∀ F σ H, Hs X.K F μ H → Sl X.K F ρ σ → ∀ Q, Kont X.K F Φ Q → sE X e σ H Q
def wT (e : Expr) (ρ : Rho) (μ : Mu) (Φ : Bool → Mu → Prop) : Prop := ∀ F σ H, Hs X.K F μ H → Sl X.K F ρ σ → ∀ Q, KontT X.K F Φ Q → sT X e σ H Q
def wW (e : Expr) (ρ : Rho) (μ : Mu) (Φ : Bool → Mu → Prop) : Prop := ∀ F σ H, Hs X.K F μ H → Sl X.K F ρ σ → ∀ Q, KontT X.K F Φ Q → sW X e σ H Q
def wA (es : List Expr) (ρ : Rho) (μ : Mu) (Φ : List D → Mu → Prop) : Prop := ∀ F σ H, Hs X.K F μ H → Sl X.K F ρ σ → ∀ Q, KontA X.K F Φ Q → sA X es σ H Q
def wS (st : Stmt) (ρ : Rho) (μ : Mu) (E : En) : Prop := ∀ F σ H, Hs X.K F μ H → Sl X.K F ρ σ → ∀ D, KontE X.K F E D → sS X st D σ H
def wSs (st : List Stmt) (ρ : Rho) (μ : Mu) (E : En) : Prop := ∀ F σ H, Hs X.K F μ H → Sl X.K F ρ σ → ∀ D, KontE X.K F E D → sSs X st D σ H
def wG (tg : Expr) (d : D) (ρ : Rho) (μ : Mu) (Φ : Rho → Mu → Prop) : Prop := ∀ F σ H v, Hs X.K F μ H → Sl X.K F ρ σ → Rep X.K F v d → ∀ Q, KontS X.K F Φ Q → sG X tg v σ H Q
def wGs (ts : List Expr) (ds : List D) (ρ : Rho) (μ : Mu) (Φ : Rho → Mu → Prop) : Prop := ∀ F σ H vs, Hs X.K F μ H → Sl X.K F ρ σ → Reps X.K F vs ds → ∀ Q, KontS X.K F Φ Q → sGs X ts vs σ H Q
/-- operations by values -/
def wOp (f : Value → Value → Sem Value) (d e : D) (μ : Mu) (Φ : D → Mu → Prop) : Prop := ∀ F H x y, Hs X.K F μ H → Rep X.K F x d → Rep X.K F y e → ∀ Q, Kont X.K F Φ Q → ∀ (pins : List (Addr × Obj)) (s : Shared) (σ : St) (v u : Value), Inv X pins σ H s → RelV x v → RelV y u → wpAny (model X.prog X.w) X.A (f v u) (EP X pins σ Q) X.xe s
def wUn (f : Value → Sem Value) (d : D) (μ : Mu) (Φ : D → Mu → Prop) : Prop := ∀ F H x, Hs X.K F μ H → Rep X.K F x d → ∀ Q, Kont X.K F Φ Q → ∀ (pins : List (Addr × Obj)) (s : Shared) (σ : St) (v : Value), Inv X pins σ H s → RelV x v → wpAny (model X.prog X.w) X.A (f v) (EP X pins σ Q) X.xe s
def wCl (f : Value) (ds : List D) (μ : Mu) (Φ : D → Mu → Prop) : Prop := ∀ F H xs, Hs X.K F μ H → Reps X.K F xs ds → ∀ Q, Kont X.K F Φ Q → ∀ (pins : List (Addr × Obj)) (s : Shared) (σ : St) (us : List Value), Inv X pins σ H s → Vals xs us → wpAny (model X.prog X.w) X.A (call f us) (EP X pins σ Q) X.xe s
/-- a subscript by values -/
def wIx (d e : D) (μ : Mu) (Φ : D → Mu → Prop) : Prop := ∀ F H x y, Hs X.K F μ H → Rep X.K F x d → Rep X.K F y e → ∀ Q, Kont X.K F Φ Q → ∀ (value slice : Expr) (pins : List (Addr × Obj)) (s : Shared) (σ : St) (v u : Value), Inv X pins σ H s → RelV x v → RelV y u →
  subscripted slice false v u = operate [v, u] (getItem v u) → wpAny (model X.prog X.w) X.A (PyProof.Rows.subscriptTail value slice v u) (EP X pins σ Q) X.xe s
/-- what is walked: the items -/
def Wk (K : KF) (F : Hp) (J : It) (its : List D) : Prop := ∀ i F' μ H, Ex F F' → Hs K F' μ H → (i < its.length → J.go i H) ∧ (i = its.length → J.stop i H) ∧ ∀ x H' d, J.yld i H x H' → its[i]? = some d → ∃ F2, Ex F' F2 ∧ Hs K F2 μ H' ∧ Rep K F2 x d
def wI (tg iter : Expr) (ρ : Rho) (μ : Mu) (Φ : List D → Mu → Prop) : Prop := ∀ F σ H, Hs X.K F μ H → Sl X.K F ρ σ → ∀ R, (∀ J its F' μ' H', Φ its μ' → Ex F F' → Hs X.K F' μ' H' → Wk X.K F' J its → R J H') → sI X tg iter σ H R
end

section
variable {X : Cy} {e a b c : Expr} {es : List Expr} {ρ : Rho} {μ : Mu} {Φ : D → Mu → Prop} {ΦT : Bool → Mu → Prop} {ΦA : List D → Mu → Prop} {E : En} {pos p : Pos}

/-! expressions -/
theorem w_name (i : Nat) {x : Str} {d : D} (hN : X.N[i]? = some x) (hv : Vis X.env.scope x) (h : ρ[i]? = some (some d)) (k : Φ d μ) (hd : (x == ("__debug__" : Str)) = false := by decide) (hcd : (x == ("__classdict__" : Str)) = false := by decide) : wE X (.Name x pos) ρ μ Φ := fun F σ H hs sl Q kt => by
  obtain ⟨v, h1, h2⟩ := sl.at_ i d h
  exact se_of (pe_var hN hv hd hcd) ⟨v, h1, kt v F H d μ k (Ex.refl F) hs h2⟩
theorem w_int {i j} (k : Φ (.int i) μ) : wE X (.Constant (.int i) j pos) ρ μ Φ := fun F σ H hs sl Q kt => se_of pe_int (kt _ F H _ μ k (Ex.refl F) hs (.int i))
theorem w_bl {i j} (k : Φ (.bl i) μ) : wE X (.Constant (.bool i) j pos) ρ μ Φ := fun F σ H hs sl Q kt => se_of pe_bl (kt _ F H _ μ k (Ex.refl F) hs (.bl i))
theorem w_non {j} (k : Φ .non μ) : wE X (.Constant .none j pos) ρ μ Φ := fun F σ H hs sl Q kt => se_of pe_non (kt _ F H _ μ k (Ex.refl F) hs .non)
theorem w_str {i j} (k : Φ (.str i) μ) : wE X (.Constant (.str i) j pos) ρ μ Φ := fun F σ H hs sl Q kt => se_of pe_str (kt _ F H _ μ k (Ex.refl F) hs (.str i))
/-- a list made here stands still behind e -/
theorem w_fz (h : wE X e ρ μ fun d μ1 => ∃ i p ds, d = .ptr p ∧ μ1[i]? = some (p, .lst ds) ∧ Φ (.lst ds) (μ1.eraseIdx i)) : wE X e ρ μ Φ := fun F σ H hs sl Q kt =>
  h F σ H hs sl Q fun v F1 H1 d μ1 ⟨i, p, ds, hd, hi, q⟩ x1 hs1 r => by
    subst hd
    cases r
    obtain ⟨F2, x2, hs2, r2⟩ := hs1.freeze hi
    exact kt _ F2 H1 _ _ q (x1.trans x2) hs2 r2
theorem w_mono {Ψ : D → Mu → Prop} (h : wE X e ρ μ Ψ) (k : ∀ d μ', Ψ d μ' → Φ d μ') : wE X e ρ μ Φ := fun F σ H hs sl Q kt => h F σ H hs sl Q fun v F1 H1 d μ1 q => kt v F1 H1 d μ1 (k d μ1 q)
/-- cells that are needed no more -/
theorem w_sub {μ' : Mu} (s : μ'.Sublist μ) (h : wE X e ρ μ' Φ) : wE X e ρ μ Φ := fun F σ H hs sl Q kt => h F σ H (hs.sub s) sl Q kt

/-- cells that are needed no more, behind e -/
theorem w_dr (h : wE X e ρ μ fun d μ1 => ∃ μ2, μ2.Sublist μ1 ∧ Φ d μ2) : wE X e ρ μ Φ := fun F σ H hs sl Q kt => h F σ H hs sl Q fun v F1 H1 d μ1 ⟨μ2, s, q⟩ x hs1 r => kt v F1 H1 d μ2 q x (hs1.sub s) r

theorem binW {R : V → V → Hp → Prop} {ΨT : D → D → Mu → Prop} (h : wE X a ρ μ fun d1 μ1 => wE X b ρ μ1 fun d2 μ2 => ΨT d1 d2 μ2) {F : Hp} {σ : St} {H : Hp} (hs : Hs X.K F μ H) (sl : Sl X.K F ρ σ)
    (k : ∀ x y F2 H2 d1 d2 μ2, ΨT d1 d2 μ2 → Ex F F2 → Hs X.K F2 μ2 H2 → Rep X.K F2 x d1 → Rep X.K F2 y d2 → R x y H2) : sE X a σ H fun x H1 => sE X b σ H1 fun y H2 => R x y H2 :=
  h F σ H hs sl _ fun x F1 H1 d1 μ1 h1 e1 hs1 r1 => h1 F1 σ H1 hs1 (sl.mono e1) _ fun y F2 H2 d2 μ2 h2 e2 hs2 r2 => k x y F2 H2 d1 d2 μ2 h2 (e1.trans e2) hs2 (r1.mono e2) r2
/-- the semantic operator -/
def semR (X : Cy) (f : Value → Value → Sem Value) : R2 := fun x y H Q => ∀ (pins : List (Addr × Obj)) (s : Shared) (σ : St) (v u : Value), Inv X pins σ H s → RelV x v → RelV y u → wpAny (model X.prog X.w) X.A (f v u) (EP X pins σ Q) X.xe s
theorem op_s {f : Value → Value → Sem Value} : OpR X f (semR X f) := fun pins s σ H x y v u Q I rx ry h => h pins s σ v u I rx ry
theorem w_bin {op : Operator} (h : wE X a ρ μ fun d1 μ1 => wE X b ρ μ1 fun d2 μ2 => wOp X (binaryOp op) d1 d2 μ2 Φ) : wE X (.BinOp a op b pos) ρ μ Φ := fun F σ H hs sl Q kt =>
  se_of (pe_op op_s pe_s pe_s) (binW h hs sl fun x y F2 H2 d1 d2 μ2 q e hs2 r1 r2 => q F2 H2 x y hs2 r1 r2 Q (kt.mono e))
theorem w_cmp {op : CmpOp} (h : wE X a ρ μ fun d1 μ1 => wE X b ρ μ1 fun d2 μ2 => wOp X (compareOp op) d1 d2 μ2 Φ) (hm : behindInMarks op b = false := by rfl) : wE X (.Compare a [op] [b] pos) ρ μ Φ := fun F σ H hs sl Q kt =>
  se_of (pe_cmpR op_s pe_s pe_s hm) (binW h hs sl fun x y F2 H2 d1 d2 μ2 q e hs2 r1 r2 => q F2 H2 x y hs2 r1 r2 Q (kt.mono e))
theorem w_un {op : UnaryOp} (h : wE X a ρ μ fun d1 μ1 => wUn X (unaryOp op) d1 μ1 Φ) : wE X (.UnaryOp op a pos) ρ μ Φ := fun F σ H hs sl Q kt =>
  se_of (pe_un (r := fun x H Q => ∀ (pins : List (Addr × Obj)) (s : Shared) (σ : St) (v : Value), Inv X pins σ H s → RelV x v → wpAny (model X.prog X.w) X.A (unaryOp op v) (EP X pins σ Q) X.xe s) (fun pins s σ H x v Q I r h => h pins s σ v I r) pe_s)
    (h F σ H hs sl _ fun x F1 H1 d1 μ1 q e1 hs1 r1 => q F1 H1 x hs1 r1 Q (kt.mono e1))
theorem w_ix (h : wE X a ρ μ fun d1 μ1 => wE X b ρ μ1 fun d2 μ2 => wIx X d1 d2 μ2 Φ) (hs : PlainIx b := by exact fun _ _ => rfl) : wE X (.Subscript a b pos) ρ μ Φ := fun F σ H hh sl Q kt =>
  se_of (pe_ix (r := fun x y H Q => ∀ (value slice : Expr) (pins : List (Addr × Obj)) (s : Shared) (σ : St) (v u : Value), Inv X pins σ H s → RelV x v → RelV y u →
    subscripted slice false v u = operate [v, u] (getItem v u) → wpAny (model X.prog X.w) X.A (PyProof.Rows.subscriptTail value slice v u) (EP X pins σ Q) X.xe s) (fun value slice pins s σ H x y v u Q I rx ry h z => h value slice pins s σ v u I rx ry z) pe_s pe_s hs)
    (binW h hh sl fun x y F2 H2 d1 d2 μ2 q e hs2 r1 r2 => q F2 H2 x y hs2 r1 r2 Q (kt.mono e))
/-! argument lists, displays -/
theorem wa_nil (k : ΦA [] μ) : wA X [] ρ μ ΦA := fun F σ H hs sl Q kt => sa_of pa_nil (kt [] F H [] μ k (Ex.refl F) hs .nil)
theorem wa_cons (h : wE X e ρ μ fun d μ1 => wA X es ρ μ1 fun ds μ2 => ΦA (d :: ds) μ2) (hst : starEach (e :: es) X.env = (false, eval e X.env) :: starEach es X.env := by rfl) : wA X (e :: es) ρ μ ΦA := fun F σ H hs sl Q kt =>
  sa_of (pa_cons pe_s pa_s hst) (h F σ H hs sl _ fun x F1 H1 d μ1 h1 e1 hs1 r1 => h1 F1 σ H1 hs1 (sl.mono e1) _ fun xs F2 H2 ds μ2 h2 e2 hs2 r2 => kt (x :: xs) F2 H2 (d :: ds) μ2 h2 (e1.trans e2) hs2 (.cons (r1.mono e2) r2))
theorem w_tup {n} (h : wA X es ρ μ fun ds μ1 => ds.length ≤ 100000 ∧ Φ (.tup ds) μ1) : wE X (.Tuple es n pos) ρ μ Φ := fun F σ H hs sl Q kt =>
  se_of (pe_tup pa_s) (h F σ H hs sl _ fun xs F1 H1 ds μ1 ⟨hz, q⟩ e1 hs1 r1 => ⟨Evl.sz_of (by rw [r1.length]; exact hz), fun p hp => by
    obtain ⟨g1, g2⟩ := hs1.laid (u := .tup xs) hp
    exact kt _ _ _ _ _ q (e1.trans g2) g1 (.tup upd_same (r1.mono g2))⟩)
/-- a list that stands still from the start -/
theorem w_lst (h : wA X es ρ μ fun ds μ1 => ds.length ≤ 100000 ∧ Φ (.lst ds) μ1) : wE X (.List es pos) ρ μ Φ := fun F σ H hs sl Q kt =>
  se_of (pe_lst pa_s) (h F σ H hs sl _ fun xs F1 H1 ds μ1 ⟨hz, q⟩ e1 hs1 r1 => ⟨Evl.sz_of (by rw [r1.length]; exact hz), fun p hp => by
    obtain ⟨g1, g2⟩ := hs1.laid (u := .lst xs) hp
    exact kt _ _ _ _ _ q (e1.trans g2) g1 (.lst upd_same (r1.mono g2))⟩)
/-- a list that will change -/
theorem w_lstM (h : wA X es ρ μ fun ds μ1 => ds.length ≤ 100000 ∧ ∀ p, Φ (.ptr p) ((p, .lst ds) :: μ1)) : wE X (.List es pos) ρ μ Φ := fun F σ H hs sl Q kt =>
  se_of (pe_lst pa_s) (h F σ H hs sl _ fun xs F1 H1 ds μ1 ⟨hz, q⟩ e1 hs1 r1 => ⟨Evl.sz_of (by rw [r1.length]; exact hz), fun p hp => kt _ _ _ _ _ (q p) e1 (hs1.cell hp (.lst r1)) (.ptr p)⟩)
/-! calls -/
theorem w_callB {x : Str} {id : String} (hm : X.mg x = none) (h : wA X (e :: es) ρ μ fun ds μ1 => wCl X (.builtin id) ds μ1 Φ) (hg : Gl X x := by rfl) (hv : bootBuiltins x = some (.builtin id) := by decide +kernel) (hn : x ≠ "__name__" := by decide) (hdb : (x == ("__debug__" : Str)) = false := by decide)
    (he : starEach (e :: es) X.env = (false, eval e X.env) :: starEach es X.env := by rfl) (hpl : (backTo pos (starEach es X.env)).any (·.1) = false := by rfl) : wE X (.Call (.Name x p) (e :: es) [] pos) ρ μ Φ := fun F σ H hs sl Q kt =>
  se_of (pe_callB (r := fun xs H Q => ∀ (pins : List (Addr × Obj)) (s : Shared) (σ : St) (us : List Value), Inv X pins σ H s → Vals xs us → wpAny (model X.prog X.w) X.A (call (.builtin id) us) (EP X pins σ Q) X.xe s) (fun pins s σ H xs us Q I r h => h pins s σ us I r) hg hm hv pa_s hn hdb he hpl)
    (h F σ H hs sl _ fun xs F1 H1 ds μ1 q e1 hs1 r1 => q F1 H1 xs hs1 r1 Q (kt.mono e1))
theorem w_callTy {x : Str} {T : String} (hm : X.mg x = none) (h : wA X (e :: es) ρ μ fun ds μ1 => wCl X (.type T) ds μ1 Φ) (hg : Gl X x := by rfl) (hv : bootBuiltins x = some (.type T) := by decide +kernel) (hn : x ≠ "__name__" := by decide) (hdb : (x == ("__debug__" : Str)) = false := by decide)
    (he : starEach (e :: es) X.env = (false, eval e X.env) :: starEach es X.env := by rfl) (hpl : (backTo pos (starEach es X.env)).any (·.1) = false := by rfl) : wE X (.Call (.Name x p) (e :: es) [] pos) ρ μ Φ := fun F σ H hs sl Q kt =>
  se_of (pe_callTy (r := fun xs H Q => ∀ (pins : List (Addr × Obj)) (s : Shared) (σ : St) (us : List Value), Inv X pins σ H s → Vals xs us → wpAny (model X.prog X.w) X.A (call (.type T) us) (EP X pins σ Q) X.xe s) (fun pins s σ H xs us Q I r h => h pins s σ us I r) hg hm hv pa_s hn hdb he hpl)
    (h F σ H hs sl _ fun xs F1 H1 ds μ1 q e1 hs1 r1 => q F1 H1 xs hs1 r1 Q (kt.mono e1))
/-- a value that names a built-in type, as an argument -/
abbrev FS := List D → Mu → (D → Mu → Prop) → Prop
/-- a def's promise over data -/
def spD (K : PySem.W.Frag) (S : FS) : Sp := fun vs H Q _ => ∃ (g F : Hp) (ds : List D) (μ : Mu) (Φ : D → Mu → Prop), Hs ⟨K, g⟩ F μ H ∧ Reps K F vs ds ∧ S ds μ Φ ∧ Kont ⟨K, g⟩ F Φ Q
/-- a method of a built-in type -/
def wMt (X : Cy) (T id : String) (d : D) (ds : List D) (μ : Mu) (Φ : D → Mu → Prop) : Prop := ∀ F H x xs, Hs X.K F μ H → Rep X.K F x d → Reps X.K F xs ds → ∀ Q, Kont X.K F Φ Q → ∀ (pins : List (Addr × Obj)) (s : Shared) (σ : St) (v : Value) (us : List Value), Inv X pins σ H s → RelV x v → Vals xs us → wpAny (model X.prog X.w) X.A (call (.builtin id) (v :: us)) (EP X pins σ Q) X.xe s
/-- of which type the receiver is -/
def tyD (T : String) (d : D) (μ : Mu) : Prop := match d with
  | .str _ => T = "str"
  | .lst _ => T = "list"
  | .scr _ => T = "list"
  | .tup _ => T = "tuple"
  | .tpl _ => T = "tuple"
  | .ptr p => (T = "list" ∧ ∃ (i : Nat) (l : List D), μ[i]? = some (p, MO.lst l)) ∨ (T = "dict" ∧ ∃ (i : Nat) (l : List (Key × D)), μ[i]? = some (p, MO.dk l)) ∨ (T = "dict" ∧ ∃ (i : Nat) (l : List (List Key × D)), μ[i]? = some (p, MO.dt l))
  | _ => False
end
end Oc

/-! Own layer, part 2: statements, loops, comprehensions, defs. -/
namespace Oc
open PySem PySem.Spec L2
open Evl (Ex)
section
variable {X : Cy} {e a b c : Expr} {es : List Expr} {st : Stmt} {sts us : List Stmt} {ρ : Rho} {μ : Mu} {Φ : D → Mu → Prop} {ΦT : Bool → Mu → Prop} {ΦA : List D → Mu → Prop} {ΦS : Rho → Mu → Prop} {E : En} {pos p : Pos}

/-! tests -/
theorem wt_val (h : wE X e ρ μ fun d μ1 => ∃ b, d = .bl b ∧ ΦT b μ1) (he : ∀ whole, isTrue e X.env whole = (do let v ← whole; standAt e.pos; holding [v] (truthy v)) := by intro _; rfl) : wT X e ρ μ ΦT := fun F σ H hs sl Q kt =>
  st_of (pt_val pe_s he) (h F σ H hs sl _ fun v F1 H1 d μ1 ⟨b, hd, q⟩ e1 hs1 r1 => by
    subst hd
    cases r1
    exact ⟨b, rfl, kt b F1 H1 μ1 q e1 hs1⟩)
theorem wt_cmp {op : CmpOp} (h : wE X a ρ μ fun d1 μ1 => wE X b ρ μ1 fun d2 μ2 => wOp X (compareOp op) d1 d2 μ2 fun d μ3 => ∃ k, d = .bl k ∧ ΦT k μ3) (hm : behindInMarks op b = false := by rfl) : wT X (.Compare a [op] [b] pos) ρ μ ΦT := fun F σ H hs sl Q kt =>
  st_of (pt_cmpR op_s pe_s pe_s hm) (binW h hs sl fun x y F2 H2 d1 d2 μ2 q e hs2 r1 r2 => q F2 H2 x y hs2 r1 r2 _ fun v F3 H3 d μ3 ⟨k, hd, q3⟩ e3 hs3 r3 => by
    subst hd
    cases r3
    exact ⟨k, rfl, kt k F3 H3 μ3 q3 (e.trans e3) hs3⟩)
theorem wt_not (h : wT X a ρ μ fun b μ1 => ΦT (!b) μ1) : wT X (.UnaryOp .Not a pos) ρ μ ΦT := fun F σ H hs sl Q kt =>
  st_of (pt_not pt_s) (h F σ H hs sl _ fun b F1 H1 μ1 q e1 hs1 => kt (!b) F1 H1 μ1 q e1 hs1)
theorem wt_w (h : wW X e ρ μ ΦT) : wT X e ρ μ ΦT := fun F σ H hs sl Q kt => st_of (PW.pt pw_s) (h F σ H hs sl Q kt)
theorem ww_and1 (h : wT X a ρ μ ΦT) : wW X (.BoolOp .And [a] pos) ρ μ ΦT := fun F σ H hs sl Q kt => sw_of (pw_and1 pt_s) (h F σ H hs sl Q kt)
theorem ww_or1 (h : wT X a ρ μ ΦT) : wW X (.BoolOp .Or [a] pos) ρ μ ΦT := fun F σ H hs sl Q kt => sw_of (pw_or1 pt_s) (h F σ H hs sl Q kt)
theorem ww_and {rest : List Expr} (h : wT X a ρ μ fun k μ1 => (k = true → wW X (.BoolOp .And (b :: rest) pos) ρ μ1 ΦT) ∧ (k = false → ΦT false μ1)) : wW X (.BoolOp .And (a :: b :: rest) pos) ρ μ ΦT := fun F σ H hs sl Q kt =>
  sw_of (pw_and pt_s pw_s) (h F σ H hs sl _ fun k F1 H1 μ1 q e1 hs1 => by
    cases k with
    | true => exact q.1 rfl F1 σ H1 hs1 (sl.mono e1) Q (kt.mono e1)
    | false => exact kt false F1 H1 μ1 (q.2 rfl) e1 hs1)
theorem ww_or {rest : List Expr} (h : wT X a ρ μ fun k μ1 => (k = false → wW X (.BoolOp .Or (b :: rest) pos) ρ μ1 ΦT) ∧ (k = true → ΦT true μ1)) : wW X (.BoolOp .Or (a :: b :: rest) pos) ρ μ ΦT := fun F σ H hs sl Q kt =>
  sw_of (pw_or pt_s pw_s) (h F σ H hs sl _ fun k F1 H1 μ1 q e1 hs1 => by
    cases k with
    | false => exact q.1 rfl F1 σ H1 hs1 (sl.mono e1) Q (kt.mono e1)
    | true => exact kt true F1 H1 μ1 (q.2 rfl) e1 hs1)
theorem wt_mono {Ψ : Bool → Mu → Prop} (h : wT X e ρ μ Ψ) (k : ∀ d μ', Ψ d μ' → ΦT d μ') : wT X e ρ μ ΦT := fun F σ H hs sl Q kt => h F σ H hs sl Q fun v F1 H1 μ1 q => kt v F1 H1 μ1 (k v μ1 q)
/-- and, or, not, if as values -/
theorem w_andV {rest : List Expr} (h : wE X a ρ μ fun d μ1 => ∃ k, d = .bl k ∧ (k = true → wE X (.BoolOp .And (b :: rest) pos) ρ μ1 Φ) ∧ (k = false → Φ (.bl false) μ1)) : wE X (.BoolOp .And (a :: b :: rest) pos) ρ μ Φ := fun F σ H hs sl Q kt =>
  se_of (pe_and pe_s pe_s) (h F σ H hs sl _ fun v F1 H1 d μ1 ⟨k, hd, q⟩ e1 hs1 r1 => by
    subst hd
    cases r1
    refine ⟨k, rfl, ?_⟩
    cases k with
    | true => exact q.1 rfl F1 σ H1 hs1 (sl.mono e1) Q (kt.mono e1)
    | false => exact kt _ F1 H1 _ μ1 (q.2 rfl) e1 hs1 (.bl false))
theorem w_orV {rest : List Expr} (h : wE X a ρ μ fun d μ1 => ∃ k, d = .bl k ∧ (k = false → wE X (.BoolOp .Or (b :: rest) pos) ρ μ1 Φ) ∧ (k = true → Φ (.bl true) μ1)) : wE X (.BoolOp .Or (a :: b :: rest) pos) ρ μ Φ := fun F σ H hs sl Q kt =>
  se_of (pe_or pe_s pe_s) (h F σ H hs sl _ fun v F1 H1 d μ1 ⟨k, hd, q⟩ e1 hs1 r1 => by
    subst hd
    cases r1
    refine ⟨k, rfl, ?_⟩
    cases k with
    | false => exact q.1 rfl F1 σ H1 hs1 (sl.mono e1) Q (kt.mono e1)
    | true => exact kt _ F1 H1 _ μ1 (q.2 rfl) e1 hs1 (.bl true))
theorem w_notV (h : wE X a ρ μ fun d μ1 => ∃ k, d = .bl k ∧ Φ (.bl (!k)) μ1) : wE X (.UnaryOp .Not a pos) ρ μ Φ := fun F σ H hs sl Q kt =>
  se_of (pe_not pe_s) (h F σ H hs sl _ fun v F1 H1 d μ1 ⟨k, hd, q⟩ e1 hs1 r1 => by
    subst hd
    cases r1
    exact ⟨k, rfl, kt _ F1 H1 _ μ1 q e1 hs1 (.bl _)⟩)
theorem w_andV1 (h : wE X a ρ μ Φ) : wE X (.BoolOp .And [a] pos) ρ μ Φ := fun F σ H hs sl Q kt => se_of (pe_one (op := .And) pe_s) (h F σ H hs sl Q kt)
theorem w_orV1 (h : wE X a ρ μ Φ) : wE X (.BoolOp .Or [a] pos) ρ μ Φ := fun F σ H hs sl Q kt => se_of (pe_one (op := .Or) pe_s) (h F σ H hs sl Q kt)
theorem w_ifx (h : wT X c ρ μ fun k μ1 => (k = true → wE X a ρ μ1 Φ) ∧ (k = false → wE X b ρ μ1 Φ)) : wE X (.IfExp c a b pos) ρ μ Φ := fun F σ H hs sl Q kt =>
  se_of (pe_ifExp pt_s pe_s pe_s) (h F σ H hs sl _ fun k F1 H1 μ1 q e1 hs1 => by
    cases k with
    | true =>
      rw [if_pos rfl]
      exact q.1 rfl F1 σ H1 hs1 (sl.mono e1) Q (kt.mono e1)
    | false =>
      rw [if_neg Bool.false_ne_true]
      exact q.2 rfl F1 σ H1 hs1 (sl.mono e1) Q (kt.mono e1))

/-! statements -/
theorem w_nil (k : E.nx ρ μ) : wSs X [] ρ μ E := fun F σ H hs sl D kt => sss_of pss_nil (kt.nx F H σ ρ μ k (Ex.refl F) hs sl)
theorem KontE.nx' {K : KF} {F : Hp} {E : En} {D : Ends} (k : KontE K F E D) {R : Rho → Mu → Prop} {R' : L2.St → Hp → Prop} (h : KontS K F R R') : KontE K F { E with nx := R } { D with nx := R' } := ⟨h, k.rt, k.bk, k.ct⟩
theorem w_cons (h : wS X st ρ μ { E with nx := fun ρ' μ' => wSs X sts ρ' μ' E }) : wSs X (st :: sts) ρ μ E := fun F σ H hs sl D kt =>
  sss_of (pss_cons ps_s pss_s) (h F σ H hs sl _ (kt.nx' fun F1 H1 σ1 ρ1 μ1 q e1 hs1 sl1 => q F1 σ1 H1 hs1 sl1 D (kt.mono e1)))
theorem w_one (h : wS X st ρ μ E) : wSs X [st] ρ μ E := fun F σ H hs sl D kt => sss_of (pss_one ps_s) (h F σ H hs sl D kt)
theorem w_expr (h : wE X e ρ μ fun _ μ1 => E.nx ρ μ1) (hsw : swapsWith e none pos.line X.env = pure false := by rfl) : wS X (.Expr e pos) ρ μ E := fun F σ H hs sl D kt =>
  ss_of (ps_expr pe_s hsw) (h F σ H hs sl _ fun v F1 H1 d μ1 q e1 hs1 _ => kt.nx F1 H1 σ ρ μ1 q e1 hs1 (sl.mono e1))
theorem w_ret (h : wE X e ρ μ E.rt) : wS X (.Return (some e) pos) ρ μ E := fun F σ H hs sl D kt => ss_of (ps_ret pe_s) (h F σ H hs sl _ kt.rt)
theorem w_retN (h : E.rt .non μ) : wS X (.Return none pos) ρ μ E := fun F σ H hs sl D kt => ss_of ps_retN (kt.rt _ F H _ μ h (Ex.refl F) hs .non)
theorem w_pass (h : E.nx ρ μ) : wS X (.Pass pos) ρ μ E := fun F σ H hs sl D kt => ss_of ps_pass (kt.nx F H σ ρ μ h (Ex.refl F) hs sl)
theorem w_brk (h : E.bk ρ μ) : wS X (.Break pos) ρ μ E := fun F σ H hs sl D kt => ss_of ps_break (kt.bk F H σ ρ μ h (Ex.refl F) hs sl)
theorem w_cnt (h : E.ct ρ μ) : wS X (.Continue pos) ρ μ E := fun F σ H hs sl D kt => ss_of ps_continue (kt.ct F H σ ρ μ h (Ex.refl F) hs sl)
theorem w_if (h : wT X c ρ μ fun k μ1 => (k = true → wSs X sts ρ μ1 E) ∧ (k = false → wSs X us ρ μ1 E)) : wS X (.If c sts us pos) ρ μ E := fun F σ H hs sl D kt =>
  ss_of (ps_if pt_s pss_s pss_s) (h F σ H hs sl _ fun k F1 H1 μ1 q e1 hs1 => by
    cases k with
    | true =>
      rw [if_pos rfl]
      exact q.1 rfl F1 σ H1 hs1 (sl.mono e1) D (kt.mono e1)
    | false =>
      rw [if_neg Bool.false_ne_true]
      exact q.2 rfl F1 σ H1 hs1 (sl.mono e1) D (kt.mono e1))
/-- what is known of cells and slots may be said with less -/
theorem wSs_sub {μ' : Mu} (s : μ'.Sublist μ) (h : wSs X sts ρ μ' E) : wSs X sts ρ μ E := fun F σ H hs sl D kt => h F σ H (hs.sub s) sl D kt
/-- a list is changed no more: cell i, which slot j names -/
theorem wSs_fz {i j : Nat} {q : Addr} {ds : List D} (hi : μ[i]? = some (q, .lst ds)) (hj : ρ[j]? = some (some (.ptr q))) (h : wSs X sts (ρ.set j (some (.lst ds))) (μ.eraseIdx i) E) : wSs X sts ρ μ E := fun F σ H hs sl D kt => by
  obtain ⟨F', e1, hs1, r1⟩ := hs.freeze hi
  obtain ⟨v, hv, rv⟩ := sl.at_ j _ hj
  cases rv
  have e2 : σ.set j (some (V.ref q)) = σ := by
    apply List.ext_getElem?
    intro k
    by_cases hk : j = k
    · subst hk
      rw [List.getElem?_set_self (List.getElem?_eq_some_iff.mp hv).1, hv]
    · rw [List.getElem?_set_ne hk]
  have sl1 := (sl.mono e1).set j r1
  rw [e2] at sl1
  exact h F' σ H hs1 sl1 D (kt.mono e1)

/-! targets -/
theorem wg_name (i : Nat) {x : Str} {d : D} (hN : X.N.Nodup) (hi : X.N[i]? = some x) (hx : Loc X.env.scope x) (hf : X.fn x = true ∨ X.env.scope.names.lookup x = some .local) (k : ΦS (ρ.set i (some d)) μ) : wG X (.Name x pos) d ρ μ ΦS := fun F σ H v hs sl r Q kt =>
  sg_of (pg_name hN hi hx hf) (kt F H _ _ μ k (Ex.refl F) hs (sl.set i r))
theorem wgs_nil (k : ΦS ρ μ) : wGs X [] [] ρ μ ΦS := fun F σ H v hs sl r Q kt => by
  cases r
  exact sgs_of pgs_nil ⟨rfl, kt F H σ ρ μ k (Ex.refl F) hs sl⟩
theorem wgs_cons {d : D} {ds : List D} (h : wG X e d ρ μ fun ρ1 μ1 => wGs X es ds ρ1 μ1 ΦS) (hs : (assignEach (e :: es) X.env).map (·.2) = assign e X.env :: (assignEach es X.env).map (·.2) := by rfl) : wGs X (e :: es) (d :: ds) ρ μ ΦS := fun F σ H vs hh sl r Q kt => by
  cases r with
  | cons r rr =>
    exact sgs_of (pgs_cons pg_s pgs_s hs) ⟨_, _, rfl, h F σ H _ hh sl r _ fun F1 H1 σ1 ρ1 μ1 q e1 hs1 sl1 => q F1 σ1 H1 _ hs1 sl1 (rr.mono e1) Q (kt.mono e1)⟩
theorem wg_tup {n : Nat} {ds : List D} (hc : X.calm = true) (hl : ds.length = es.length) (h : wGs X es ds ρ μ ΦS) (hn : (assignEach es X.env).length = es.length := by rfl) (hst : (assignEach es X.env).findIdx? (·.1) = none := by rfl) : wG X (.Tuple es n pos) (.tup ds) ρ μ ΦS := fun F σ H v hs sl r Q kt => by
  cases r with
  | tup h1 h2 => exact sg_of (pg_tup hc pgs_s hn hst) ⟨_, _, rfl, (Evl.st_of (hs.ex _ _ h1)), h2.length.trans hl, h F σ H _ hs sl h2 Q kt⟩
theorem w_asg {tg : Expr} (h : wE X e ρ μ fun d μ1 => wG X tg d ρ μ1 E.nx) (hs : swapsWithSole [tg] e pos.line X.env = pure false := by rfl) (hw : swappedStores [tg] e X.env = pure none := by rfl)
    (h1 : (assignEach [tg] X.env).map (·.2) = [assign tg X.env] := by rfl) : wS X (.Assign [tg] e pos) ρ μ E := fun F σ H hh sl D kt =>
  ss_of (ps_asg pe_s pg_s hs hw h1) (h F σ H hh sl _ fun v F1 H1 d μ1 q e1 hs1 r1 => q F1 σ H1 v hs1 (sl.mono e1) r1 _ (kt.nx.mono e1))
theorem w_set (i : Nat) {x : Str} {q : Pos} (hN : X.N.Nodup) (hi : X.N[i]? = some x) (hx : Loc X.env.scope x) (hf : X.fn x = true ∨ X.env.scope.names.lookup x = some .local) (h : wE X e ρ μ fun d μ1 => E.nx (ρ.set i (some d)) μ1)
    (hs : swapsWith e (some (.Name x q)) pos.line X.env = pure false := by rfl) : wS X (.Assign [.Name x q] e pos) ρ μ E := fun F σ H hh sl D kt =>
  ss_of (ps_set hN hi hx pe_s hs hf) (h F σ H hh sl _ fun v F1 H1 d μ1 q e1 hs1 r1 => kt.nx F1 H1 _ _ μ1 q e1 hs1 ((sl.mono e1).set i r1))
theorem w_par (i j : Nat) {x y : Str} {px py pt : Pos} {kt' k2 : Nat} {pt2 : Pos} (hc : X.calm = true) (hN : X.N.Nodup) (hi : X.N[i]? = some x) (hj : X.N[j]? = some y) (hij : i ≠ j)
    (hx : X.env.scope.names.lookup x = some .local) (hy : X.env.scope.names.lookup y = some .local) (hw : swappedStores [.Tuple [.Name x px, .Name y py] kt' pt] (.Tuple [a, b] k2 pt2) X.env = pure (some [x, y]))
    (h : wA X [a, b] ρ μ fun ds μ1 => ∃ d1 d2, ds = [d1, d2] ∧ E.nx ((ρ.set i (some d1)).set j (some d2)) μ1)
    (hs : swapsWithSole [.Tuple [.Name x px, .Name y py] kt' pt] (.Tuple [a, b] k2 pt2) pos.line X.env = pure false := by rfl) : wS X (.Assign [.Tuple [.Name x px, .Name y py] kt' pt] (.Tuple [a, b] k2 pt2) pos) ρ μ E := fun F σ H hh sl D kt =>
  ss_of (ps_par hc hN hi hj hij hx hy pa_s hw hs) (h F σ H hh sl _ fun vs F1 H1 ds μ1 ⟨d1, d2, hd, q⟩ e1 hs1 r1 => by
    subst hd
    cases r1 with
    | cons r1 rr =>
      cases rr with
      | cons r2 rr =>
        cases rr
        exact ⟨_, _, rfl, kt.nx F1 H1 _ _ μ1 q e1 hs1 (((sl.mono e1).set i r1).set j r2)⟩)

/-! loops -/
theorem w_for {tg iter : Expr} {body : List Stmt} (h : wI X tg iter ρ μ fun its μ1 => ∃ Iv : Nat → Rho → Mu → Prop, Iv 0 ρ μ1 ∧
      (∀ i x ρ' μ', its[i]? = some x → Iv i ρ' μ' → wG X tg x ρ' μ' fun ρ2 μ2 => wSs X body ρ2 μ2 { nx := Iv (i + 1), rt := E.rt, bk := E.nx, ct := Iv (i + 1) }) ∧ (∀ ρ' μ', Iv its.length ρ' μ' → E.nx ρ' μ'))
    (hp : PassesOwn (model X.prog X.w) X.A X.env X.xe) (hc : X.calm = true) (hs : ∀ x, foldedSetIterable iter X.env x = pure x := by intro _; rfl) : wS X (.For tg iter body [] pos) ρ μ E := fun F σ H hh sl D kt =>
  ss_of (ps_for hp hc pi_s pg_s pss_s hs) (h F σ H hh sl _ fun J its F1 μ1 H1 ⟨Iv, h0, ht, hd⟩ e1 hs1 wk => by
    refine ⟨fun i m σ' H' => m = its.length - i ∧ i ≤ its.length ∧ ∃ F' ρ' μ', Ex F1 F' ∧ Hs X.K F' μ' H' ∧ Sl X.K F' ρ' σ' ∧ Iv i ρ' μ', ⟨its.length, by simp, Nat.zero_le _, F1, ρ, μ1, Ex.refl _, hs1, sl.mono e1, h0⟩, ?_⟩
    rintro i m σ' H' ⟨rfl, hi, F', ρ', μ', e2, hs2, sl2, iv⟩
    obtain ⟨w1, w2, w3⟩ := wk i F' μ' H' e2 hs2
    by_cases hlt : i < its.length
    · refine .inr ⟨w1 hlt, fun σ3 H3 => ∃ F3 ρ3 μ3, Ex F1 F3 ∧ Hs X.K F3 μ3 H3 ∧ Sl X.K F3 ρ3 σ3 ∧ Iv (i + 1) ρ3 μ3, fun σ3 H3 q => ⟨its.length - (i + 1), by omega, rfl, hlt, q⟩, fun x H3 hy => ?_⟩
      have hx : its[i]? = some its[i] := List.getElem?_eq_getElem hlt
      obtain ⟨F3, e3, hs3, r3⟩ := w3 x H3 _ hy hx
      refine ht i _ ρ' μ' hx iv F3 σ' H3 x hs3 (sl2.mono e3) r3 _ fun F4 H4 σ4 ρ4 μ4 q4 e4 hs4 sl4 => ?_
      have up : ∀ {F5 : Hp}, Ex F4 F5 → Ex F1 F5 := fun z => e2.trans (e3.trans (e4.trans z))
      refine q4 F4 σ4 H4 hs4 sl4 _ ⟨fun F5 H5 σ5 ρ5 μ5 q5 e5 hs5 sl5 => ⟨F5, ρ5, μ5, up e5, hs5, sl5, q5⟩, ?_, ?_, fun F5 H5 σ5 ρ5 μ5 q5 e5 hs5 sl5 => ⟨F5, ρ5, μ5, up e5, hs5, sl5, q5⟩⟩
      · exact kt.rt.mono (e1.trans (up (Ex.refl _)))
      · exact kt.nx.mono (e1.trans (up (Ex.refl _)))
    · have he : i = its.length := by omega
      subst he
      exact .inl ⟨w2 rfl, kt.nx F' H' σ' ρ' μ' (hd ρ' μ' iv) (e1.trans e2) hs2 sl2⟩)
theorem w_while {body : List Stmt} (Iv : Nat → Rho → Mu → Prop) (m0 : Nat) (h0 : Iv m0 ρ μ)
    (ht : ∀ m ρ' μ', Iv m ρ' μ' → wT X c ρ' μ' fun k μ1 => (k = true → wSs X body ρ' μ1 { nx := fun ρ2 μ2 => ∃ m', m' < m ∧ Iv m' ρ2 μ2, rt := E.rt, bk := E.nx, ct := fun ρ2 μ2 => ∃ m', m' < m ∧ Iv m' ρ2 μ2 }) ∧ (k = false → E.nx ρ' μ1))
    (hp : PassesOwn (model X.prog X.w) X.A X.env X.xe) : wS X (.While c body [] pos) ρ μ E := fun F σ H hh sl D kt =>
  ss_of (ps_while hp pt_s pss_s) (by
    refine ⟨fun m σ' H' => ∃ F' ρ' μ', Ex F F' ∧ Hs X.K F' μ' H' ∧ Sl X.K F' ρ' σ' ∧ Iv m ρ' μ', ⟨m0, F, ρ, μ, Ex.refl _, hh, sl, h0⟩, ?_⟩
    rintro m σ' H' ⟨F', ρ', μ', e2, hs2, sl2, iv⟩
    refine ht m ρ' μ' iv F' σ' H' hs2 sl2 _ fun k F3 H3 μ3 q e3 hs3 => ?_
    cases k with
    | true =>
      refine ⟨fun σ4 H4 => ∃ m', m' < m ∧ ∃ F4 ρ4 μ4, Ex F F4 ∧ Hs X.K F4 μ4 H4 ∧ Sl X.K F4 ρ4 σ4 ∧ Iv m' ρ4 μ4, fun σ4 H4 ⟨m', h1, h2⟩ => ⟨m', h1, h2⟩, ?_⟩
      refine q.1 rfl F3 σ' H3 hs3 (sl2.mono e3) _ ⟨fun F5 H5 σ5 ρ5 μ5 ⟨m', h1, h2⟩ e5 hs5 sl5 => ⟨m', h1, F5, ρ5, μ5, e2.trans (e3.trans e5), hs5, sl5, h2⟩, kt.rt.mono (e2.trans e3), kt.nx.mono (e2.trans e3), fun F5 H5 σ5 ρ5 μ5 ⟨m', h1, h2⟩ e5 hs5 sl5 => ⟨m', h1, F5, ρ5, μ5, e2.trans (e3.trans e5), hs5, sl5, h2⟩⟩
    | false => exact kt.nx F3 H3 σ' ρ' μ3 (q.2 rfl) (e2.trans e3) hs3 (sl2.mono e3))

/-! what is walked -/
theorem wi_lst {tg : Expr} {ΦI : List D → Mu → Prop} (h : wE X e ρ μ fun d μ1 => ∃ ds, d = .lst ds ∧ ΦI ds μ1) : wI X tg e ρ μ ΦI := fun F σ H hs sl R kt =>
  si_of (pi_list pe_s) (h F σ H hs sl _ fun v F1 H1 d μ1 ⟨ds, hd, q⟩ e1 hs1 r1 => by
    subst hd
    cases r1 with
    | lst g r =>
      rename_i a xs
      refine ⟨a, rfl, ⟨xs, Evl.ex_l hs1.ex (Evl.sq_of g)⟩, kt _ ds F1 μ1 H1 q e1 hs1 fun i F' μ' H' e' hs' => ?_⟩
      have g' : SqL X.K H' a xs := Evl.ex_l hs'.ex (Evl.ex_l e' (Evl.sq_of g))
      refine ⟨fun hi => ⟨xs, xs[i]'(by rw [r.length]; exact hi), g', List.getElem?_eq_getElem _⟩, fun hi => ⟨xs, g', by rw [r.length]; exact Nat.le_of_eq hi.symm⟩, fun x H2 d hy hd => ?_⟩
      obtain ⟨rfl, fy⟩ := hy
      obtain ⟨y, h1, h2⟩ := r.get hd
      cases (fy _ g').symm.trans h1
      exact ⟨F', Ex.refl _, hs', h2.mono e'⟩)
theorem wi_scr {tg : Expr} {ΦI : List D → Mu → Prop} (h : wE X e ρ μ fun d μ1 => ∃ ds, d = .scr ds ∧ ΦI ds μ1) : wI X tg e ρ μ ΦI := fun F σ H hs sl R kt =>
  si_of (pi_list pe_s) (h F σ H hs sl _ fun v F1 H1 d μ1 ⟨ds, hd, q⟩ e1 hs1 r1 => by
    subst hd
    cases r1 with
    | scr g r =>
      rename_i a xs
      refine ⟨a, rfl, ⟨xs, Evl.ex_l hs1.ex g⟩, kt _ ds F1 μ1 H1 q e1 hs1 fun i F' μ' H' e' hs' => ?_⟩
      have g' : SqL X.K H' a xs := Evl.ex_l hs'.ex (Evl.ex_l e' g)
      refine ⟨fun hi => ⟨xs, xs[i]'(by rw [r.length]; exact hi), g', List.getElem?_eq_getElem _⟩, fun hi => ⟨xs, g', by rw [r.length]; exact Nat.le_of_eq hi.symm⟩, fun x H2 d hy hd => ?_⟩
      obtain ⟨rfl, fy⟩ := hy
      obtain ⟨y, h1, h2⟩ := r.get hd
      cases (fy _ g').symm.trans h1
      exact ⟨F', Ex.refl _, hs', h2.mono e'⟩)
theorem wi_tup {tg : Expr} {ΦI : List D → Mu → Prop} (h : wE X e ρ μ fun d μ1 => ∃ ds, d = .tup ds ∧ ΦI ds μ1) : wI X tg e ρ μ ΦI := fun F σ H hs sl R kt =>
  si_of (pi_tup pe_s) (h F σ H hs sl _ fun v F1 H1 d μ1 ⟨ds, hd, q⟩ e1 hs1 r1 => by
    subst hd
    cases r1 with
    | tup g r =>
      rename_i a xs
      refine ⟨a, rfl, ⟨xs, (Evl.st_of (hs1.ex _ _ g))⟩, kt _ ds F1 μ1 H1 q e1 hs1 fun i F' μ' H' e' hs' => ?_⟩
      have g' : SqT X.K H' a xs := Evl.ex_t hs'.ex ((Evl.st_of (e' _ _ g)))
      refine ⟨fun hi => ⟨xs, xs[i]'(by rw [r.length]; exact hi), g', List.getElem?_eq_getElem _⟩, fun hi => ⟨xs, g', by rw [r.length]; exact Nat.le_of_eq hi.symm⟩, fun x H2 d hy hd => ?_⟩
      obtain ⟨rfl, fy⟩ := hy
      obtain ⟨y, h1, h2⟩ := r.get hd
      cases (fy _ g').symm.trans h1
      exact ⟨F', Ex.refl _, hs', h2.mono e'⟩)
/-- the numbers lo, lo + 1, .. -/
def rngD (lo : Int) (n : Nat) : List D := (List.range n).map fun i : Nat => D.int (lo + (i : Int))
theorem rngD_get {lo : Int} {n i : Nat} {d : D} (h : (rngD lo n)[i]? = some d) : i < n ∧ d = .int (lo + (i : Int)) := by
  unfold rngD at h
  rw [List.getElem?_map] at h
  by_cases hi : i < n
  · rw [List.getElem?_range hi] at h
    cases h
    exact ⟨hi, rfl⟩
  · rw [List.getElem?_eq_none (by rw [List.length_range]; omega)] at h
    cases h
theorem rngD_len {lo : Int} {n : Nat} : (rngD lo n).length = n := by unfold rngD; rw [List.length_map, List.length_range]
theorem wk_rng {K : KF} {F : Hp} {lo : Int} {n : Nat} : Wk K F (Itr lo n) (rngD lo n) := fun i F' μ' H' e' hs' => by
  rw [rngD_len]
  refine ⟨fun hi => hi, fun hi => Nat.le_of_eq hi.symm, fun x H2 d hy hd => ?_⟩
  obtain ⟨rfl, rfl⟩ := hy
  obtain ⟨_, rfl⟩ := rngD_get hd
  exact ⟨F', Ex.refl _, hs', .int _⟩
theorem wi_rng1 {tg : Expr} {ΦI : List D → Mu → Prop} (hm : X.mg "range" = none) (h : wE X a ρ μ fun d μ1 => ∃ j : Int, d = .int j ∧ (0 ≤ j ∧ j ≤ 100000000) ∧ ΦI (rngD 0 j.toNat) μ1) (hg : Gl X "range" := by rfl) (hs : starEach [a] X.env = [(false, eval a X.env)] := by rfl) : wI X tg (.Call (.Name "range" p) [a] [] pos) ρ μ ΦI := fun F σ H hh sl R kt =>
  si_of (pi_range1 hg hm (pa_cons pe_s pa_nil hs) hs) (h F σ H hh sl _ fun v F1 H1 d μ1 ⟨j, hd, hj, q⟩ e1 hs1 r1 => by
    subst hd
    cases r1
    exact ⟨j, rfl, by omega, by omega, kt _ _ F1 μ1 H1 q e1 hs1 wk_rng⟩)
theorem wi_rng2 {tg : Expr} {ΦI : List D → Mu → Prop} (hm : X.mg "range" = none) (h : wE X a ρ μ fun d μ1 => wE X b ρ μ1 fun d' μ2 => ∃ i j : Int, d = .int i ∧ d' = .int j ∧ (-100000000 ≤ i ∧ i ≤ 100000000 ∧ -100000000 ≤ j ∧ j ≤ 100000000) ∧ ΦI (rngD i (j - i).toNat) μ2) (hg : Gl X "range" := by rfl)
    (hs : starEach [a, b] X.env = [(false, eval a X.env), (false, eval b X.env)] := by rfl) (hs2 : starEach [b] X.env = [(false, eval b X.env)] := by rfl) : wI X tg (.Call (.Name "range" p) [a, b] [] pos) ρ μ ΦI := fun F σ H hh sl R kt =>
  si_of (pi_range2 hg hm (pa_cons pe_s (pa_cons pe_s pa_nil hs2) (by rw [hs, hs2])) hs hs2) (h F σ H hh sl _ fun v F1 H1 d μ1 q1 e1 hs1 r1 => q1 F1 σ H1 hs1 (sl.mono e1) _ fun u F2 H2 d' μ2 ⟨i, j, hd, hd', hb, q⟩ e2 hs2' r2 => by
    subst hd
    subst hd'
    cases r1
    cases r2
    exact ⟨i, j, rfl, ⟨by omega, by omega, by omega, by omega⟩, kt _ _ F2 μ2 H2 q (e1.trans e2) hs2' wk_rng⟩)
theorem wi_str {tg : Expr} {ΦI : List D → Mu → Prop} (h : wE X e ρ μ fun d μ1 => ∃ z : Str, d = .str z ∧ ΦI (z.cps.toList.map fun c => .str ⟨#[c]⟩) μ1) : wI X tg e ρ μ ΦI := fun F σ H hs sl R kt =>
  si_of (pi_str pe_s) (h F σ H hs sl _ fun v F1 H1 d μ1 ⟨z, hd, q⟩ e1 hs1 r1 => by
    subst hd
    cases r1
    refine ⟨z, rfl, kt _ _ F1 μ1 H1 q e1 hs1 fun i F' μ' H' e' hs' => ?_⟩
    rw [List.length_map, Array.length_toList]
    refine ⟨fun hi => hi, fun hi => Nat.le_of_eq hi.symm, fun x H2 d hy hd => ?_⟩
    obtain ⟨rfl, c, hc, rfl⟩ := hy
    rw [List.getElem?_map, Array.getElem?_toList, hc] at hd
    cases hd
    exact ⟨F', Ex.refl _, hs', .str _⟩)
/-! enumerate of a text -/
def Ites (x : Str) : It := ⟨fun i _ => i < x.cps.size, fun i H v H' => ∃ T c, x.cps[i]? = some c ∧ v = .ref T ∧ H T = none ∧ H' = upd H T (.tup [.int (i : Nat), .str ⟨#[c]⟩]), fun i _ => i = x.cps.size⟩
theorem turn_enumS {P : Program} {w : World} {K : PySem.W.Frag} {elts : List Expr} {kk : Nat} {tpos : Pos} (x : Str) (t : Tok) (e it : Addr) (hne : e ≠ it) :
    Turn P w K (.Tuple elts kk tpos) (Ites x) [e, it] e (fun i h => (∃ old, IsEnum h e it (0 + (i : Int)) old) ∧ h.IsStrIter it (strIterType x) x t i) where
  mem := by simp
  obj := fun i h st b hb => by
    obtain ⟨⟨old, he⟩, ⟨o, ho, hc, hd⟩⟩ := st
    rcases List.mem_cons.mp hb with z | z
    · subst z; exact ⟨_, he, fun v q => nomatch q⟩
    · rcases List.mem_cons.mp z with z | z
      · subst z; exact ⟨o, ho, fun v q => by rw [hd] at q; cases q⟩
      · cases z
  keep := fun i h h' st k => by
    obtain ⟨⟨old, he⟩, ⟨o, ho, r⟩⟩ := st
    exact ⟨⟨old, k e (by simp) _ he⟩, ⟨o, k it (by simp) o ho, r⟩⟩
  item := by
    intro Y hP hw hK hc i pins s σ H E I hf st hg
    subst hP hw hK
    have G := GoesN.enumFrom (prog := Y.prog) (w := Y.w) (A := Y.A) (elts := elts) (x1 := kk) (pos := tpos) 0 (Draws.text (A := Y.A.in1) (I.ok.hd hc) it x t) e hne (by simpa using hne) (by simp)
    refine G.goes i s _ E hg st fun v h' tk hY st' hk htk => ?_
    obtain ⟨T, t', u, rfl, hT, ⟨c, t'', hcx, rfl⟩, hv⟩ := hY
    have new : ObjOk Y.prog Y.w (upd H T (.tup [.int (i : Nat), .str ⟨#[c]⟩])) h' T (.tup [.int (i : Nat), .str ⟨#[c]⟩]) :=
      ⟨by show 2 ≤ sizeLine; decide, [.int (0 + (i : Int)) t', .str ⟨#[c]⟩ t''], .cons ⟨t', by rw [Int.zero_add]⟩ (.cons ⟨_, rfl⟩ .nil), hv⟩
    have I1 := I.turnedNew (t' := tk) (ch := [e, it]) hk hf hT new
    refine ⟨.ref T, _, I1, rfl, ⟨T, c, hcx, rfl, I.hok.fresh hT, rfl⟩, st', fun b hb => ?_⟩
    have hlt : b < s.heap.objs.size := by
      obtain ⟨⟨old, he⟩, ⟨o, ho, _⟩⟩ := st
      rcases List.mem_cons.mp hb with z | z
      · subst z; exact Heap.lt_size he
      · rcases List.mem_cons.mp z with z | z
        · subst z; exact Heap.lt_size ho
        · cases z
    rw [upd_ne (Nat.ne_of_lt (Nat.lt_of_lt_of_le hlt hT))]
    exact (hf b hb).1
  done := by
    intro Y hP hw hK hc i pins s σ H E I hf st hg
    subst hP hw hK
    have hg' : i = x.cps.size := hg
    subst hg'
    have G := GoesN.enumFrom (prog := Y.prog) (w := Y.w) (A := Y.A) (elts := elts) (x1 := kk) (pos := tpos) 0 (Draws.text (A := Y.A.in1) (I.ok.hd hc) it x t) e hne (by simpa using hne) (by simp)
    refine G.stops s _ E st fun h' tk hk htk => ?_
    exact I.turnedL hk hf
  self := fun A i s Q E st h => let ⟨⟨_, he⟩, _⟩ := st; wpAny_pyIter_enum he h
end
section
variable {X : Cy} {e a b c elt tg iter : Expr} {es ifs : List Expr} {st : Stmt} {sts us : List Stmt} {ρ : Rho} {μ : Mu} {Φ : D → Mu → Prop} {ΦT : Bool → Mu → Prop} {ΦA : List D → Mu → Prop} {ΦS : Rho → Mu → Prop} {E : En} {pos p : Pos}
def iEnumS (ta : TA) : TI := fun σ H R => ta σ H fun vs H1 => ∃ x, vs = [.str x] ∧ R (Ites x) H1
theorem pi_enumS {ta : TA} {tpos : Pos} {elts : List Expr} {kk : Nat} (hg : Gl X "enumerate") (hm : X.mg "enumerate" = none) (ha : PA X [e] ta) (hs : starEach [e] X.env = [(false, eval e X.env)] := by rfl) : PI X (.Tuple elts kk tpos) (.Call (.Name "enumerate" p) [e] [] pos) (iEnumS ta) := by
  refine ⟨fun pins s σ H R I h => ?_⟩
  refine PyProof.Rows.Call_ (ld_blt I hg hm PyProof.Rows.boot_enumerate (PyProof.Rows.callWith_type1 (thn (ha.run pos pins s σ H _ I h) fun us s1 hq => ?_) hs rfl))
  obtain ⟨vs, H1, I1, r1, x, rfl, q⟩ := hq
  cases r1 with
  | cons r rr =>
    cases rr
    obtain ⟨t, rfl⟩ := r
    refine call_enumerate_str fun h' he hit hsz hk => wpAny_pyIter_enum he ?_
    have I2 : Inv X pins σ H1 { s1 with heap := h' } := I1.kept (t' := s1.toks) hk
    refine ⟨s1.heap.objs.size + 1, [s1.heap.objs.size + 1, s1.heap.objs.size], _, _, H1, rfl, I2, turn_enumS x t (s1.heap.objs.size + 1) s1.heap.objs.size (Nat.succ_ne_self _), ⟨⟨.none, he⟩, hit⟩, fun b hb => ?_, q⟩
    have hle : s1.heap.objs.size ≤ b := by
      rcases List.mem_cons.mp hb with z | z
      · rw [z]; exact Nat.le_succ _
      · rcases List.mem_cons.mp z with z | z
        · rw [z]; exact Nat.le_refl _
        · cases z
    exact I1.fpOk hle (I1.hok.fresh hle)
/-- the pairs of a place and a sign -/
def enumS (z : Str) : List D := (List.range z.cps.size).map fun i : Nat => .tup [.int i, .str ⟨#[z.cps.getD i 0]⟩]
theorem enumS_get {z : Str} {i : Nat} {d : D} (h : (enumS z)[i]? = some d) : ∃ c, z.cps[i]? = some c ∧ d = .tup [.int i, .str ⟨#[c]⟩] := by
  unfold enumS at h
  rw [List.getElem?_map] at h
  by_cases hi : i < z.cps.size
  · rw [List.getElem?_range hi] at h
    cases h
    refine ⟨z.cps[i], Array.getElem?_eq_getElem hi, ?_⟩
    simp [hi]
  · rw [List.getElem?_eq_none (by rw [List.length_range]; omega)] at h
    cases h
theorem enumS_len {z : Str} : (enumS z).length = z.cps.size := by unfold enumS; rw [List.length_map, List.length_range]
theorem wi_enumS {tpos : Pos} {elts : List Expr} {kk : Nat} {ΦI : List D → Mu → Prop} (hm : X.mg "enumerate" = none) (h : wE X e ρ μ fun d μ1 => ∃ z : Str, d = .str z ∧ ΦI (enumS z) μ1) (hg : Gl X "enumerate" := by rfl) (hs : starEach [e] X.env = [(false, eval e X.env)] := by rfl) : wI X (.Tuple elts kk tpos) (.Call (.Name "enumerate" p) [e] [] pos) ρ μ ΦI := fun F σ H hh sl R kt =>
  si_of (pi_enumS hg hm (pa_cons pe_s pa_nil hs) hs) (h F σ H hh sl _ fun v F1 H1 d μ1 ⟨z, hd, q⟩ e1 hs1 r1 => by
    subst hd
    cases r1
    refine ⟨z, rfl, kt _ _ F1 μ1 H1 q e1 hs1 fun i F' μ' H' e' hs' => ?_⟩
    rw [enumS_len]
    refine ⟨fun hi => hi, fun hi => hi, fun x H2 d hy hd => ?_⟩
    · obtain ⟨T, c, hc, rfl, hT, rfl⟩ := hy
      obtain ⟨c', hc', rfl⟩ := enumS_get hd
      cases hc.symm.trans hc'
      obtain ⟨g1, g2⟩ := hs'.laid (u := .tup [.int (i : Nat), .str ⟨#[c]⟩]) hT
      exact ⟨_, g2, g1, .tup upd_same (.cons (.int _) (.cons (.str _) .nil))⟩)

/-! comprehensions -/
def wipeR (ρ : Rho) : List Nat → Rho
  | [] => ρ
  | v :: vs => (wipeR ρ vs).set v none
theorem Sl.wipeL {K : PySem.W.Frag} {F : Hp} {ρ : Rho} {σ : L2.St} (s : Sl K F ρ σ) : ∀ vs : List Nat, Sl K F (wipeR ρ vs) (L2.wipe σ vs)
  | [] => s
  | v :: vs => (s.wipeL vs).wipe v
theorem wipe_get {σ : L2.St} : ∀ (vs : List Nat) (k : Nat), (wipe σ vs)[k]? = if k ∈ vs then σ[k]?.map (fun _ => none) else σ[k]?
  | [], k => by simp [wipe]
  | v :: vs, k => by
    unfold wipe
    rw [List.getElem?_set]
    have ih := wipe_get (σ := σ) vs k
    by_cases hk : v = k
    · subst hk
      rw [if_pos rfl, if_pos List.mem_cons_self, wipe_length]
      by_cases hl : v < σ.length
      · rw [if_pos hl, List.getElem?_eq_getElem hl]; rfl
      · rw [if_neg hl, List.getElem?_eq_none (by omega)]; rfl
    · rw [if_neg hk, ih]
      have : (k ∈ v :: vs) = (k ∈ vs) := by simp [List.mem_cons, Ne.symm hk]
      simp [this]
theorem wipe_setw {σ σ1 : L2.St} {vs : List Nat} {j : Nat} {x : Option V} (h : j ∈ vs) (e : wipe σ1 vs = wipe σ vs) : wipe (σ1.set j x) vs = wipe σ vs := by
  rw [← e]
  apply List.ext_getElem?
  intro k
  rw [wipe_get, wipe_get, List.getElem?_set]
  by_cases hk : k ∈ vs
  · rw [if_pos hk, if_pos hk]
    by_cases hj : j = k
    · subst hj
      rw [if_pos rfl]
      by_cases hl : j < σ1.length
      · rw [if_pos hl, List.getElem?_eq_getElem hl]; rfl
      · rw [if_neg hl, List.getElem?_eq_none (by omega)]
    · rw [if_neg hj]
  · have hj : j ≠ k := fun z => hk (z ▸ h)
    rw [if_neg hk, if_neg hk, if_neg hj]
theorem wipe_idem {σ : L2.St} {vs : List Nat} : wipe (wipe σ vs) vs = wipe σ vs := by
  apply List.ext_getElem?
  intro k
  rw [wipe_get, wipe_get]
  by_cases hk : k ∈ vs
  · rw [if_pos hk, if_pos hk]; cases σ[k]? <;> rfl
  · rw [if_neg hk, if_neg hk]
/-- the tests of a clause -/
def wTs (X : Cy) (ifs : List Expr) (ρ : Rho) (μ : Mu) (ΦT : Bool → Mu → Prop) : Prop := match ifs with
  | [] => ΦT true μ
  | [c] => wT X c ρ μ ΦT
  | _ => False
def sTs (X : Cy) (ifs : List Expr) : TT := fun σ H Q => ∀ (pins : List (Addr × Obj)) (s : Shared), Inv X pins σ H s →
    wpAny (model X.prog X.w) X.A (forIn ifs true fun c r => if r = true then do let ok ← isTrue c X.env (eval c X.env); pure (ForInStep.yield ok) else pure (ForInStep.yield r)) (TP X pins σ Q) X.xe s
theorem pts_s {ifs : List Expr} : PTs X ifs (sTs X ifs) := ⟨fun pins s σ H Q I h => h pins s I⟩
theorem sts_of {t : TT} (p : PTs X ifs t) {σ : L2.St} {H : Hp} {Q : Bool → Hp → Prop} (h : t σ H Q) : sTs X ifs σ H Q := fun pins s I => p.run pins s σ H Q I h
theorem wTs.go (h : wTs X ifs ρ μ ΦT) {F : Hp} {σ : L2.St} {H : Hp} (hs : Hs X.K F μ H) (sl : Sl X.K F ρ σ) {Q : Bool → Hp → Prop} (kt : KontT X.K F ΦT Q) : sTs X ifs σ H Q := by
  match ifs, h with
  | [], h => exact sts_of pts_nil (kt true F H μ h (Ex.refl F) hs)
  | [c], h => exact sts_of (pts_one pt_s) (h F σ H hs sl Q kt)
/-- the targets of a comprehension: a name, or a tuple of names, by their places -/
inductive Tg where
  | one (j : Nat) | two (j k : Nat) | tree (j k l : Nat)
def Tg.slots : Tg → List Nat
  | .one j => [j]
  | .two j k => [j, k]
  | .tree j k l => [j, k, l]
def Tg.put : Tg → D → Rho → Option Rho
  | .one j, d, ρ => some (ρ.set j (some d))
  | .two j k, .tup [d, e], ρ => some ((ρ.set j (some d)).set k (some e))
  | .tree j k l, .tup [d, e, f], ρ => some (((ρ.set j (some d)).set k (some e)).set l (some f))
  | _, _, _ => none
def Tg.g (K : PySem.W.Frag) : Tg → TG
  | .one j => gName j
  | .two j k => gTup K 2 (gCons (gName j) (gCons (gName k) gNil))
  | .tree j k l => gTup K 3 (gCons (gName j) (gCons (gName k) (gCons (gName l) gNil)))
/-- the contexts of a block -/
abbrev blkE (X : Cy) (scope : Scope) (s : Shared) (H : Hp) (C : Addr) (cl : List (Str × Addr)) (fp : List Addr) : Cy := ⟨X.c.blk s H scope (compEnvC scope cl C X.env) fp, X.g⟩
theorem Tg.run {t : Tg} {K : KF} {F : Hp} {v : V} {d : D} {ρ ρ' : Rho} {σ : L2.St} {μ : Mu} {H : Hp} {vs : List Nat} {Q : L2.St → Hp → Prop} (hs : Hs K F μ H) (sl : Sl K F (wipeR ρ vs) (wipe σ vs)) (r : Rep K F v d) (hv : ∀ j ∈ t.slots, j ∈ vs) (hp : t.put d (wipeR ρ vs) = some ρ')
    (k : ∀ σ', wipe σ' vs = wipe σ vs → Sl K F ρ' σ' → Q σ' H) : t.g K v (wipe σ vs) H Q := by
  match t, d, hp with
  | .one j, d, hp =>
    cases hp
    exact k _ (wipe_setw (hv j (by simp [Tg.slots])) wipe_idem) (sl.set j r)
  | .two i j, .tup [d, e], hp =>
    cases hp
    cases r with
    | tup g r =>
      cases r with
      | cons r1 r =>
        cases r with
        | cons r2 r =>
          cases r
          exact ⟨_, _, rfl, (Evl.st_of (hs.ex _ _ g)), rfl, _, _, rfl, _, _, rfl, rfl, k _ (wipe_setw (hv j (by simp [Tg.slots])) (wipe_setw (hv i (by simp [Tg.slots])) wipe_idem)) ((sl.set i r1).set j r2)⟩
  | .tree i j l, .tup [d, e, f], hp =>
    cases hp
    cases r with
    | tup g r =>
      cases r with
      | cons r1 r =>
        cases r with
        | cons r2 r =>
          cases r with
          | cons r3 r =>
            cases r
            exact ⟨_, _, rfl, (Evl.st_of (hs.ex _ _ g)), rfl, _, _, rfl, _, _, rfl, _, _, rfl, rfl, k _ (wipe_setw (hv l (by simp [Tg.slots])) (wipe_setw (hv j (by simp [Tg.slots])) (wipe_setw (hv i (by simp [Tg.slots])) wipe_idem))) (((sl.set i r1).set j r2).set l r3)⟩
/-- [elt for tg in iter if ..]: Iv speaks of the turn, the list so far, the cells; the new list's cell p stands ahead of them -/
def LcW (X : Cy) (elt tg iter : Expr) (ifs : List Expr) (scope : Scope) (t : Tg) (vs : List Nat) (ρ : Rho) (μ : Mu) (Φ : D → Mu → Prop) : Prop :=
  wI X tg iter ρ μ fun its μ1 => its.length ≤ 1000000 ∧ ∃ Iv : Nat → List D → Mu → Prop, Iv 0 [] μ1 ∧
    (∀ p i x acc μ2, its[i]? = some x → Iv i acc μ2 → ∃ ρ', t.put x (wipeR ρ vs) = some ρ' ∧ ∀ s H C cl fp, wTs (blkE X scope s H C cl fp) ifs ρ' ((p, .lst acc) :: μ2) fun k μ4 =>
      (k = true → ∀ s H C cl fp, wE (blkE X scope s H C cl fp) elt ρ' μ4 fun d μ5 => ∃ μ6, μ5 = (p, .lst acc) :: μ6 ∧ Iv (i + 1) (acc ++ [d]) μ6) ∧ (k = false → ∃ μ6, μ4 = (p, .lst acc) :: μ6 ∧ Iv (i + 1) acc μ6)) ∧
    (∀ p acc μ2, Iv its.length acc μ2 → Φ (.ptr p) ((p, .lst acc) :: μ2))
def sTsF (X : Cy) (scope : Scope) (ifs : List Expr) : TT := fun σ H Q => ∀ s H' C cl fp, sTs (blkE X scope s H' C cl fp) ifs σ H Q
def sEF (X : Cy) (scope : Scope) (elt : Expr) : TE := fun σ H Q => ∀ s H' C cl fp, sE (blkE X scope s H' C cl fp) elt σ H Q
theorem lc_t {scope : Scope} {t : Tg} {vs : List Nat} (hv : ∀ j ∈ t.slots, j ∈ vs) (h : LcW X elt tg iter ifs scope t vs ρ μ Φ) {F : Hp} {σ : L2.St} {H : Hp} (hs : Hs X.K F μ H) (sl : Sl X.K F ρ σ) {Q : VK} (kt : Kont X.K F Φ Q) :
    tLc (sI X tg iter) (t.g X.K) (sTsF X scope ifs) (sEF X scope elt) vs σ H Q := by
  refine h F σ H hs sl _ fun J its F1 μ1 H1 ⟨hz, Iv, h0, ht, hd⟩ e1 hs1 wk Dl hD => ?_
  refine ⟨fun i m H' => m = its.length - i ∧ i ≤ its.length ∧ ∃ F' acc μ', Ex F1 F' ∧ Hs X.K F' ((Dl, .lst acc) :: μ') H' ∧ acc.length ≤ i ∧ Iv i acc μ', ⟨its.length, by simp, Nat.zero_le _, F1, [], μ1, Ex.refl _, hs1.cell hD (.lst .nil), Nat.le_refl _, h0⟩, ?_⟩
  rintro i m H' ⟨rfl, hi, F', acc, μ', e2, hs2, hl, iv⟩
  obtain ⟨w1, w2, w3⟩ := wk i F' _ H' e2 hs2
  by_cases hlt : i < its.length
  · refine .inr ⟨w1 hlt, fun H3 => ∃ F3 acc3 μ3, Ex F1 F3 ∧ Hs X.K F3 ((Dl, .lst acc3) :: μ3) H3 ∧ acc3.length ≤ i + 1 ∧ Iv (i + 1) acc3 μ3, fun H3 q => ⟨its.length - (i + 1), by omega, rfl, hlt, q⟩, fun x H3 hy => ?_⟩
    have hx : its[i]? = some its[i] := List.getElem?_eq_getElem hlt
    obtain ⟨F3, e3, hs3, r3⟩ := w3 x H3 _ hy hx
    obtain ⟨ρ', hp, ht⟩ := ht Dl i _ acc μ' hx iv
    refine Tg.run hs3 ((sl.mono (e1.trans (e2.trans e3))).wipeL vs) r3 hv hp fun σ' hw sl' => ⟨hw, fun s' H' C cl fp => ?_⟩
    refine (ht s' H' C cl fp).go hs3 sl' fun k F4 H4 μ4 q4 e4 hs4 => ?_
    cases k with
    | true =>
      rw [if_pos rfl]
      refine fun s' H' C cl fp => q4.1 rfl s' H' C cl fp F4 σ' H4 hs4 (sl'.mono e4) _ fun v F5 H5 d μ5 ⟨μ6, h6, iv6⟩ e5 hs5 r5 => ?_
      subst h6
      obtain ⟨xs, hx5, rx5⟩ := hs5.lst (i := 0) rfl
      refine ⟨xs, hx5, Nat.lt_of_le_of_lt ?_ (show 1000000 < sizeLine by decide), F5, acc ++ [d], μ6, e2.trans (e3.trans (e4.trans e5)), hs5.write (i := 0) rfl (.lst (rx5.append (.one r5))), ?_, iv6⟩
      · rw [rx5.length]
        omega
      · rw [List.length_append]
        exact Nat.succ_le_succ hl
    | false =>
      rw [if_neg Bool.false_ne_true]
      obtain ⟨μ6, h6, iv6⟩ := q4.2 rfl
      subst h6
      exact ⟨F4, acc, μ6, e2.trans (e3.trans e4), hs4, Nat.le_succ_of_le hl, iv6⟩
  · have he : i = its.length := by omega
    subst he
    exact .inl ⟨w2 rfl, kt _ F' H' _ _ (hd Dl acc μ' iv) (e1.trans e2) hs2 (.ptr Dl)⟩
theorem w_lcM {scope : Scope} {own : List (Str × Nat)} (t : Tg) (hv : ∀ j ∈ t.slots, j ∈ own.map (·.2)) (hc : X.calm = true) (hN : X.N.Nodup) (ok : BlkOk X.N X.env.scope scope own)
    (hg : ∀ s H C cl fp, PG (blkE X scope s H C cl fp) tg (t.g X.K)) (h : LcW X elt tg iter ifs scope t (own.map (·.2)) ρ μ Φ) (hs : ∀ x, foldedSetIterable iter X.env x = pure x := by intro _; rfl) :
    wE X (.ListComp elt [⟨tg, iter, ifs, 0⟩] scope pos) ρ μ Φ := fun F σ H hh sl Q kt =>
  se_of (pe_lc hc hN pi_s ok hg (fun s H C cl fp => ⟨fun pins s' σ H Q I q => q s _ C cl fp pins s' I⟩) (fun s H C cl fp => ⟨fun pins s' σ H Q I q => q s _ C cl fp pins s' I⟩) hs) (lc_t hv h hh sl kt)
theorem w_setLc {scope : Scope} {own : List (Str × Nat)} (i : Nat) {y : Str} {py spos : Pos} (t : Tg) (hv : ∀ j ∈ t.slots, j ∈ own.map (·.2)) (hc : X.calm = true) (hN : X.N.Nodup) (hy : X.N[i]? = some y) (hyl : X.env.scope.names.lookup y = some .local) (ok : BlkOk X.N X.env.scope scope own)
    (hsw : swapsWith (.ListComp elt [⟨tg, iter, ifs, 0⟩] scope pos) (some (.Name y py)) spos.line X.env = pure true)
    (hg : ∀ s H C cl fp, PG (blkE X scope s H C cl fp) tg (t.g X.K)) (h : LcW X elt tg iter ifs scope t (own.map (·.2)) ρ μ fun d μ1 => ∃ p acc μ2, d = .ptr p ∧ μ1 = (p, .lst acc) :: μ2 ∧ (E.nx (ρ.set i (some (.lst acc))) μ2 ∨ E.nx (ρ.set i (some (.ptr p))) ((p, .lst acc) :: μ2)))
    (hs : ∀ x, foldedSetIterable iter X.env x = pure x := by intro _; rfl) :
    wS X (.Assign [.Name y py] (.ListComp elt [⟨tg, iter, ifs, 0⟩] scope pos) spos) ρ μ E := fun F σ H hh sl D kt =>
  ss_of (ps_setLc hc hN hy hyl hsw pi_s ok hg (fun s H C cl fp => ⟨fun pins s' σ H Q I q => q s _ C cl fp pins s' I⟩) (fun s H C cl fp => ⟨fun pins s' σ H Q I q => q s _ C cl fp pins s' I⟩) hs)
    (lc_t hv h hh sl (Q := fun x H1 => gName i x σ H1 D.nx) fun v F1 H1 d μ1 ⟨p, acc, μ2, hd, hm, q⟩ e1 hs1 r1 => by
      subst hd
      subst hm
      cases r1
      rcases q with q | q
      · obtain ⟨F2, e2, hs2, r2⟩ := hs1.freeze (i := 0) rfl
        exact kt.nx F2 H1 _ _ _ q (e1.trans e2) hs2 ((sl.mono (e1.trans e2)).set i r2)
      · exact kt.nx F1 H1 _ _ _ q e1 hs1 ((sl.mono e1).set i (.ptr p)))

/-! a def keeps its promise -/
end
section
variable {P : Program} {w : World} {K : PySem.W.Frag} {mg : Str → Option Value} {base : Heap}
def rho (N : List Str) (ds : List D) : Rho := ds.map some ++ List.replicate (N.length - ds.length) none
theorem sl_start {F : Hp} {N : List Str} {vs : List V} {ds : List D} (r : Reps K F vs ds) : Sl K F (rho N ds) (L2.start N vs) := by
  have hl := r.length
  refine ⟨?_, fun i d h => ?_⟩
  · unfold rho L2.start
    rw [List.length_append, List.length_append, List.length_map, List.length_map, List.length_replicate, List.length_replicate, hl]
  · unfold rho at h
    by_cases hi : i < ds.length
    · rw [List.getElem?_append_left (by rw [List.length_map]; exact hi), List.getElem?_map] at h
      cases e : ds[i]? with
      | none => rw [e] at h; cases h
      | some x =>
        rw [e] at h
        cases h
        obtain ⟨v, h1, h2⟩ := r.get e
        refine ⟨v, ?_, h2⟩
        unfold L2.start
        rw [List.getElem?_append_left (by rw [List.length_map, hl]; exact hi), List.getElem?_map, h1]
        rfl
    · rw [List.getElem?_append_right (by rw [List.length_map]; omega), List.getElem?_replicate] at h
      split at h <;> cases h
end
end Oc

/-! Own layer, part 3: operations. -/
namespace Oc
open PySem PySem.Spec L2
open Evl (Ex)
theorem Kont.now {K : KF} {F : Hp} {Φ : D → Mu → Prop} {Q : VK} (kt : Kont K F Φ Q) {v : V} {H : Hp} {d : D} {μ : Mu} (k : Φ d μ) (hs : Hs K F μ H) (r : Rep K F v d) : Q v H := kt v F H d μ k (Ex.refl F) hs r
/-- flat data -/
def D.fl : D → Option V
  | .non => some .non
  | .bl b => some (.bl b)
  | .int i => some (.int i)
  | .str x => some (.str x)
  | _ => none
theorem rep_fl {K : PySem.W.Frag} {F : Hp} {v w : V} {d : D} (r : Rep K F v d) (h : d.fl = some w) : v = w := by
  cases r <;> first | (cases h; rfl) | cases h
def D.fls : List D → Option (List V)
  | [] => some []
  | d :: ds => match d.fl, D.fls ds with
    | some v, some vs => some (v :: vs)
    | _, _ => none
theorem rep_fls {K : PySem.W.Frag} {F : Hp} : ∀ {ds : List D} {vs ws : List V}, Reps K F vs ds → D.fls ds = some ws → vs = ws
  | [], _, _, .nil, h => by cases h; rfl
  | d :: ds, _, ws, .cons r rr, h => by
    unfold D.fls at h
    split at h
    · rename_i v vs h1 h2
      cases h
      rw [rep_fl r h1, rep_fls rr h2]
    · cases h
theorem fl_flat {d : D} {v : V} (h : d.fl = some v) : flatV v = true := by
  cases d <;> first | (cases h; rfl) | cases h
theorem fls_flat : ∀ {ds : List D} {vs : List V}, D.fls ds = some vs → vs.all flatV = true
  | [], _, h => by cases h; rfl
  | d :: ds, ws, h => by
    unfold D.fls at h
    split at h
    · rename_i v vs h1 h2
      cases h
      rw [List.all_cons, fl_flat h1, fls_flat h2]
      rfl
    · cases h
theorem fls_ints : ∀ ns : List Int, D.fls (ns.map D.int) = some (ns.map V.int)
  | [] => rfl
  | n :: ns => by
    show (match D.fl (.int n), D.fls (ns.map D.int) with | some v, some vs => some (v :: vs) | _, _ => none) = _
    rw [fls_ints ns]
    rfl
theorem fls_strs : ∀ ns : List Str, D.fls (ns.map D.str) = some (ns.map V.str)
  | [] => rfl
  | n :: ns => by
    show (match D.fl (.str n), D.fls (ns.map D.str) with | some v, some vs => some (v :: vs) | _, _ => none) = _
    rw [fls_strs ns]
    rfl
section
variable {X : Cy} {e a b c o : Expr} {es : List Expr} {ρ : Rho} {μ : Mu} {Φ : D → Mu → Prop} {d d1 d2 : D} {i j : Int} {x y : Str} {pos p : Pos} {f : Value → Value → Sem Value} {r : R2}
theorem wop_of (ho : OpR X f r) (h : ∀ F H x y, Hs X.K F μ H → Rep X.K F x d1 → Rep X.K F y d2 → ∀ Q, Kont X.K F Φ Q → r x y H Q) : wOp X f d1 d2 μ Φ := fun F H x y hs r1 r2 Q kt pins s σ v u I rv ru => ho pins s σ H x y v u Q I rv ru (h F H x y hs r1 r2 Q kt)
theorem wopI {C : Int → Int → Prop} {g : Int → Int → V} {d : D} (ho : OpR X f (rI C g)) (hc : C i j) (hg : ∀ K F, Rep K F (g i j) d) (k : Φ d μ) : wOp X f (.int i) (.int j) μ Φ := wop_of ho fun F H x y hs r1 r2 Q kt => by
  cases r1; cases r2
  exact ⟨i, j, rfl, rfl, hc, kt.now k hs (hg _ _)⟩
theorem wopI0 {g : Int → Int → V} {d : D} (ho : OpR X f (rI0 g)) (hg : ∀ K F, Rep K F (g i j) d) (k : Φ d μ) : wOp X f (.int i) (.int j) μ Φ := wop_of ho fun F H x y hs r1 r2 Q kt => by
  cases r1; cases r2
  exact ⟨i, j, rfl, rfl, kt.now k hs (hg _ _)⟩
theorem o_add (k : Φ (.int (i + j)) μ) : wOp X (binaryOp .Add) (.int i) (.int j) μ Φ := wopI0 op_add (fun _ _ => .int _) k
theorem o_sub (k : Φ (.int (i - j)) μ) : wOp X (binaryOp .Sub) (.int i) (.int j) μ Φ := wopI0 op_sub (fun _ _ => .int _) k
theorem o_mul (hc : (-(2 ^ 64) < i ∧ i < 2 ^ 64) ∨ (-(2 ^ 64) < j ∧ j < 2 ^ 64)) (k : Φ (.int (i * j)) μ) : wOp X (binaryOp .Mult) (.int i) (.int j) μ Φ := wopI op_mul hc (fun _ _ => .int _) k
theorem o_mod (hc : 0 < j) (k : Φ (.int (i % j)) μ) : wOp X (binaryOp .Mod) (.int i) (.int j) μ Φ := wopI op_mod hc (fun _ _ => .int _) k
theorem o_div (hc : 0 < j ∧ j < 1073741824) (k : Φ (.int (i / j)) μ) : wOp X (binaryOp .FloorDiv) (.int i) (.int j) μ Φ := wopI op_fdiv hc (fun _ _ => .int _) k
theorem o_pow (hc : 0 ≤ j ∧ j ≤ 1000000 ∧ i.natAbs < 2 ^ 64) (k : Φ (.int (i ^ j.toNat)) μ) : wOp X (binaryOp .Pow) (.int i) (.int j) μ Φ := wopI op_pow hc (fun _ _ => .int _) k
theorem o_shl (hc : 0 ≤ j ∧ j ≤ 1000000 ∧ i.natAbs < 2 ^ 64) (k : Φ (.int (i * 2 ^ j.toNat)) μ) : wOp X (binaryOp .LShift) (.int i) (.int j) μ Φ := wopI op_shl hc (fun _ _ => .int _) k
theorem o_shr (hc : 0 ≤ j) (k : Φ (.int (i / 2 ^ j.toNat)) μ) : wOp X (binaryOp .RShift) (.int i) (.int j) μ Φ := wopI op_shr hc (fun _ _ => .int _) k
theorem o_band (k : Φ (.int (Builtin.bitAnd i j)) μ) : wOp X (binaryOp .BitAnd) (.int i) (.int j) μ Φ := wopI0 op_and (fun _ _ => .int _) k
theorem o_bor (k : Φ (.int (Builtin.bitOr i j)) μ) : wOp X (binaryOp .BitOr) (.int i) (.int j) μ Φ := wopI0 op_or (fun _ _ => .int _) k
theorem o_bxor (k : Φ (.int (Builtin.bitXor i j)) μ) : wOp X (binaryOp .BitXor) (.int i) (.int j) μ Φ := wopI0 op_xor (fun _ _ => .int _) k
theorem o_addS (hc : x.length + y.length ≤ sizeLine) (k : Φ (.str (x ++ y)) μ) : wOp X (binaryOp .Add) (.str x) (.str y) μ Φ := wop_of op_add_str fun F H _ _ hs r1 r2 Q kt => by
  cases r1; cases r2
  exact ⟨x, y, rfl, rfl, hc, kt.now k hs (.str _)⟩
theorem o_addT {xs ys : List D} (hc : xs.length + ys.length ≤ 1000000) (k : Φ (.tup (xs ++ ys)) μ) : wOp X (binaryOp .Add) (.tup xs) (.tup ys) μ Φ := wop_of op_catA fun F H _ _ hs r1 r2 Q kt => by
  cases r1 with
  | tup g1 q1 =>
    cases r2 with
    | tup g2 q2 =>
      have l1 := q1.length
      have l2 := q2.length
      refine ⟨_, _, _, _, rfl, rfl, (Evl.st_of (hs.ex _ _ g1)), (Evl.st_of (hs.ex _ _ g2)), Nat.le_trans (by omega) (show 1000000 ≤ sizeLine by decide), fun h => ?_, fun h1 h2 => ?_, fun h1 h2 p hp => ?_⟩
      · subst h
        cases q1
        exact kt.now k hs (.tup g2 q2)
      · subst h2
        cases q2
        rw [List.append_nil] at k
        exact kt.now k hs (.tup g1 q1)
      · obtain ⟨s1, s2⟩ := hs.laid (u := .tup _) hp
        exact kt _ _ _ _ _ k s2 s1 (.tup upd_same ((q1.append q2).mono s2))
/-- two lists that stand still -/
theorem o_addL {xs ys : List D} (hc : xs.length + ys.length ≤ 1000000) (k : Φ (.lst (xs ++ ys)) μ) : wOp X (binaryOp .Add) (.lst xs) (.lst ys) μ Φ := wop_of op_cat fun F H _ _ hs r1 r2 Q kt => by
  cases r1 with
  | lst g1 q1 =>
    cases r2 with
    | lst g2 q2 =>
      have l1 := q1.length
      have l2 := q2.length
      refine ⟨_, _, _, _, rfl, rfl, hs.ex _ _ g1, hs.ex _ _ g2, Nat.le_trans (by omega) (show 1000000 ≤ sizeLine by decide), fun p hp => ?_⟩
      obtain ⟨s1, s2⟩ := hs.laid (u := .lst _) hp
      exact kt _ _ _ _ _ k s2 s1 (.lst upd_same ((q1.append q2).mono s2))
/-! comparisons -/
theorem o_lt (k : Φ (.bl (decide (i < j))) μ) : wOp X (compareOp .Lt) (.int i) (.int j) μ Φ := wopI0 op_lt (fun _ _ => .bl _) k
theorem o_le (k : Φ (.bl (decide (i ≤ j))) μ) : wOp X (compareOp .LtE) (.int i) (.int j) μ Φ := wopI0 op_le (fun _ _ => .bl _) k
theorem o_gt (k : Φ (.bl (decide (j < i))) μ) : wOp X (compareOp .Gt) (.int i) (.int j) μ Φ := wopI0 op_gt (fun _ _ => .bl _) k
theorem o_ge (k : Φ (.bl (decide (j ≤ i))) μ) : wOp X (compareOp .GtE) (.int i) (.int j) μ Φ := wopI0 op_ge (fun _ _ => .bl _) k
/-- == of flat data -/
def D.eqf : D → D → Bool
  | .non, .non => true
  | .bl a, .bl b => a == b
  | .int a, .int b => a == b
  | .str a, .str b => a == b
  | _, _ => false
def D.scal : D → D → Bool
  | .non, .non => true | .non, .int _ => true | .int _, .non => true | .non, .bl _ => true | .bl _, .non => true | .non, .str _ => true | .str _, .non => true
  | .int _, .int _ => true | .bl _, .bl _ => true | .str _, .str _ => true
  | .int _, .str _ => true | .str _, .int _ => true | .bl _, .str _ => true | .str _, .bl _ => true
  | _, _ => false
theorem scal_eq {K : PySem.W.Frag} {F : Hp} {u v : V} (r1 : Rep K F u d1) (r2 : Rep K F v d2) (h : D.scal d1 d2 = true) : scal u v = true ∧ decide (u = v) = D.eqf d1 d2 := by
  cases r1 <;> cases r2 <;> first
    | (refine ⟨by rfl, ?_⟩; simp [D.eqf]; done)
    | (refine ⟨by rfl, ?_⟩; rw [Bool.eq_iff_iff]; simp [D.eqf]; done)
    | (exfalso; simp [D.scal] at h; done)
theorem o_eq (h : D.scal d1 d2 = true) (k : Φ (.bl (D.eqf d1 d2)) μ) : wOp X (compareOp .Eq) d1 d2 μ Φ := wop_of op_eq fun F H u v hs r1 r2 Q kt => by
  obtain ⟨h1, h2⟩ := scal_eq r1 r2 h
  refine ⟨h1, ?_⟩
  rw [h2]
  exact kt.now k hs (.bl _)
theorem o_ne (h : D.scal d1 d2 = true) (k : Φ (.bl (!D.eqf d1 d2)) μ) : wOp X (compareOp .NotEq) d1 d2 μ Φ := wop_of op_ne fun F H u v hs r1 r2 Q kt => by
  obtain ⟨h1, h2⟩ := scal_eq r1 r2 h
  refine ⟨h1, ?_⟩
  rw [h2]
  exact kt.now k hs (.bl _)
def D.isN : D → Bool
  | .non => true
  | _ => false
theorem isN_eq {K : PySem.W.Frag} {F : Hp} {u : V} (r1 : Rep K F u d) : decide (u = V.non) = D.isN d := by
  cases r1 <;> simp [D.isN]
theorem o_isN (k : Φ (.bl (D.isN d)) μ) : wOp X (compareOp .Is) d .non μ Φ := wop_of op_isN fun F H u v hs r1 r2 Q kt => by
  cases r2
  refine ⟨rfl, ?_⟩
  rw [isN_eq r1]
  exact kt.now k hs (.bl _)
theorem o_notN (k : Φ (.bl (!D.isN d)) μ) : wOp X (compareOp .IsNot) d .non μ Φ := wop_of op_notN fun F H u v hs r1 r2 Q kt => by
  cases r2
  refine ⟨rfl, ?_⟩
  rw [isN_eq r1]
  exact kt.now k hs (.bl _)
/-- in a tuple or a list of flat things -/
theorem o_in {w : V} {ds : List D} {ws : List V} (hd : d2 = .tup ds ∨ d2 = .lst ds ∨ d2 = .scr ds) (h1 : d.fl = some w) (h2 : D.fls ds = some ws) (k : Φ (.bl (inV w ws)) μ) : wOp X (compareOp .In) d d2 μ Φ := wop_of op_in_seq fun F H u v hs r1 r2 Q kt => by
  have e1 := rep_fl r1 h1
  subst e1
  rcases hd with rfl | rfl | rfl
  · cases r2 with
    | tup g q =>
      have e2 := rep_fls q h2
      subst e2
      exact ⟨_, _, rfl, .inr ((Evl.st_of (hs.ex _ _ g))), fl_flat h1, fls_flat h2, kt.now k hs (.bl _)⟩
  · cases r2 with
    | lst g q =>
      have e2 := rep_fls q h2
      subst e2
      exact ⟨_, _, rfl, .inl (Evl.ex_l hs.ex (Evl.sq_of g)), fl_flat h1, fls_flat h2, kt.now k hs (.bl _)⟩
  · cases r2 with
    | scr g q =>
      have e2 := rep_fls q h2
      subst e2
      exact ⟨_, _, rfl, .inl (Evl.ex_l hs.ex g), fl_flat h1, fls_flat h2, kt.now k hs (.bl _)⟩
theorem o_nin {w : V} {ds : List D} {ws : List V} (hd : d2 = .tup ds ∨ d2 = .lst ds ∨ d2 = .scr ds) (h1 : d.fl = some w) (h2 : D.fls ds = some ws) (k : Φ (.bl (!inV w ws)) μ) : wOp X (compareOp .NotIn) d d2 μ Φ := wop_of op_notIn_seq fun F H u v hs r1 r2 Q kt => by
  have e1 := rep_fl r1 h1
  subst e1
  rcases hd with rfl | rfl | rfl
  · cases r2 with
    | tup g q =>
      have e2 := rep_fls q h2
      subst e2
      exact ⟨_, _, rfl, .inr ((Evl.st_of (hs.ex _ _ g))), fl_flat h1, fls_flat h2, kt.now k hs (.bl _)⟩
  · cases r2 with
    | lst g q =>
      have e2 := rep_fls q h2
      subst e2
      exact ⟨_, _, rfl, .inl (Evl.ex_l hs.ex (Evl.sq_of g)), fl_flat h1, fls_flat h2, kt.now k hs (.bl _)⟩
  · cases r2 with
    | scr g q =>
      have e2 := rep_fls q h2
      subst e2
      exact ⟨_, _, rfl, .inl (Evl.ex_l hs.ex g), fl_flat h1, fls_flat h2, kt.now k hs (.bl _)⟩
/-! == at any depth -/
mutual
def D.py : D → PyData
  | .non => .none
  | .bl b => .bool b
  | .int i => .int i
  | .str x => .str x
  | .tup l => .tuple (D.pys l)
  | .tpl l => .tuple (D.pys l)
  | .lst l => .list (D.pys l)
  | .scr l => .list (D.pys l)
  | _ => .none
def D.pys : List D → List PyData
  | [] => []
  | d :: ds => D.py d :: D.pys ds
end
mutual
/-- nothing in it that may change -/
def D.still : D → Bool
  | .tup l => D.stills l
  | .tpl l => D.stills l
  | .lst l => D.stills l
  | .scr l => D.stills l
  | .ptr _ => false
  | .ty _ => false
  | .dct _ _ => false
  | _ => true
def D.stills : List D → Bool
  | [] => true
  | d :: ds => D.still d && D.stills ds
end
mutual
theorem rep_py {K : PySem.W.Frag} {F H : Hp} (e : Ex F H) : ∀ {d : D} {v : V}, Rep K F v d → D.still d = true → Dp K H v (D.py d)
  | _, _, .non, _ => .non
  | _, _, .bl b, _ => .bl b
  | _, _, .int i, _ => .int i
  | _, _, .str x, _ => .str x
  | _, _, .tup (ds := ds) g r, h => .tup ((Evl.st_of (e _ _ g))) (reps_py e r (by simpa [D.still] using h))
  | _, _, .tpl (ds := ds) g _ _ r, h => .tup (.inl (.inr ⟨_, e _ _ g⟩)) (reps_py e r (by simpa [D.still] using h))
  | _, _, .lst (ds := ds) g r, h => .lst (Evl.sq_of (e _ _ g)) (reps_py e r (by simpa [D.still] using h))
  | _, _, .scr (ds := ds) g r, h => .lst (Evl.ex_l e g) (reps_py e r (by simpa [D.still] using h))
  | _, _, .ptr a, h => absurd h (by simp [D.still])
  | _, _, .ty a, h => absurd h (by simp [D.still])
  | _, _, .dct _ _ _, h => absurd h (by simp [D.still])
theorem reps_py {K : PySem.W.Frag} {F H : Hp} (e : Ex F H) : ∀ {d : List D} {v : List V}, Reps K F v d → D.stills d = true → DpAll K H v (D.pys d)
  | _, _, .nil, _ => .nil
  | _, _, .cons r rr, h => by
    rw [D.stills, Bool.and_eq_true] at h
    exact .cons (rep_py e r h.1) (reps_py e rr h.2)
end
theorem o_eqD (hu : X.c.A.units + 64 < cLine) (h1 : D.still d1 = true) (h2 : D.still d2 = true) (s1 : SeqAt.shaped d1.py = true) (s2 : SeqAt.shaped d2.py = true) (k : Φ (.bl (PyData.eqv d1.py d2.py)) μ) : wOp X (compareOp .Eq) d1 d2 μ Φ := wop_of (op_eqD hu) fun F H u v hs r1 r2 Q kt =>
  ⟨_, _, rep_py hs.ex r1 h1, rep_py hs.ex r2 h2, s1, s2, kt.now k hs (.bl _)⟩
theorem o_neD (hu : X.c.A.units + 64 < cLine) (h1 : D.still d1 = true) (h2 : D.still d2 = true) (s1 : SeqAt.shaped d1.py = true) (s2 : SeqAt.shaped d2.py = true) (k : Φ (.bl (!PyData.eqv d1.py d2.py)) μ) : wOp X (compareOp .NotEq) d1 d2 μ Φ := wop_of (op_neD hu) fun F H u v hs r1 r2 Q kt =>
  ⟨_, _, rep_py hs.ex r1 h1, rep_py hs.ex r2 h2, s1, s2, kt.now k hs (.bl _)⟩
/-! subscripts -/
theorem wix_of {r : R2} (ho : IxR X r) (h : ∀ F H x y, Hs X.K F μ H → Rep X.K F x d1 → Rep X.K F y d2 → ∀ Q, Kont X.K F Φ Q → r x y H Q) : wIx X d1 d2 μ Φ := fun F H x y hs r1 r2 Q kt value slice pins s σ v u I rv ru z => ho value slice pins s σ H x y v u Q I rv ru (h F H x y hs r1 r2 Q kt) z
theorem ix_tupD {ds : List D} (n : Nat) (hn : i = (n : Int)) (hd : ds[n]? = some d) (k : Φ d μ) : wIx X (.tup ds) (.int i) μ Φ := wix_of ix_tup fun F H x y hs r1 r2 Q kt => by
  subst hn
  cases r2
  cases r1 with
  | tup g q =>
    obtain ⟨v, h1, h2⟩ := q.get hd
    exact ⟨_, _, _, v, rfl, rfl, (Evl.st_of (hs.ex _ _ g)), atI_nat h1, kt.now k hs h2⟩
theorem ix_lstD {ds : List D} (n : Nat) (hn : i = (n : Int)) (hd : ds[n]? = some d) (k : Φ d μ) : wIx X (.lst ds) (.int i) μ Φ := wix_of ix_list fun F H x y hs r1 r2 Q kt => by
  subst hn
  cases r2
  cases r1 with
  | lst g q =>
    obtain ⟨v, h1, h2⟩ := q.get hd
    exact ⟨_, _, _, v, rfl, rfl, Evl.sq_of (hs.ex _ _ g), atI_nat h1, kt.now k hs h2⟩
theorem ix_scrD {ds : List D} (n : Nat) (hn : i = (n : Int)) (hd : ds[n]? = some d) (k : Φ d μ) : wIx X (.scr ds) (.int i) μ Φ := wix_of ix_list fun F H x y hs r1 r2 Q kt => by
  subst hn
  cases r2
  cases r1 with
  | scr g q =>
    obtain ⟨v, h1, h2⟩ := q.get hd
    exact ⟨_, _, _, v, rfl, rfl, Evl.ex_l hs.ex g, atI_nat h1, kt.now k hs h2⟩
theorem ix_ptrD {q : Addr} {ds : List D} (m : Nat) (hm : μ[m]? = some (q, .lst ds)) (n : Nat) (hn : i = (n : Int)) (hd : ds[n]? = some d) (k : Φ d μ) : wIx X (.ptr q) (.int i) μ Φ := wix_of ix_list fun F H x y hs r1 r2 Q kt => by
  subst hn
  cases r2
  cases r1
  obtain ⟨xs, g, r⟩ := hs.lst hm
  obtain ⟨v, h1, h2⟩ := r.get hd
  exact ⟨_, _, _, v, rfl, rfl, Evl.sq_of g, atI_nat h1, kt.now k hs h2⟩
theorem ix_strD (n : Nat) (hn : i = (n : Int)) {c : Nat} (hz : x.length ≤ sizeLine) (hd : x.cps.toList[n]? = some c) (k : Φ (.str ⟨#[c]⟩) μ) : wIx X (.str x) (.int i) μ Φ := wix_of ix_str fun F H _ _ hs r1 r2 Q kt => by
  subst hn
  cases r2
  cases r1
  exact ⟨_, _, c, rfl, rfl, hz, atI_nat hd, kt.now k hs (.str _)⟩
/-! built-in functions -/
theorem wcl_of {g : Value} {r : List V → Hp → VK → Prop} {ds : List D} (ho : CallR X g r) (h : ∀ F H xs, Hs X.K F μ H → Reps X.K F xs ds → ∀ Q, Kont X.K F Φ Q → r xs H Q) : wCl X g ds μ Φ := fun F H xs hs r1 Q kt pins s σ us I rv => ho pins s σ H xs us Q I rv (h F H xs hs r1 Q kt)
theorem c_abs (k : Φ (.int (if i < 0 then -i else i)) μ) : wCl X (.builtin "abs") [.int i] μ Φ := wcl_of call_abs fun F H xs hs r1 Q kt => by
  cases r1 with
  | cons r rr => cases rr; cases r; exact ⟨i, rfl, kt.now k hs (.int _)⟩
theorem c_max2 (hc : X.calm = true) (k : Φ (.int (if j > i then j else i)) μ) : wCl X (.builtin "max") [.int i, .int j] μ Φ := wcl_of (call_max2 hc) fun F H xs hs r1 Q kt => by
  cases r1 with
  | cons r rr => cases rr with | cons r2 rr => cases rr; cases r; cases r2; exact ⟨i, j, rfl, kt.now k hs (.int _)⟩
theorem c_min2 (hc : X.calm = true) (k : Φ (.int (if j < i then j else i)) μ) : wCl X (.builtin "min") [.int i, .int j] μ Φ := wcl_of (call_min2 hc) fun F H xs hs r1 Q kt => by
  cases r1 with
  | cons r rr => cases rr with | cons r2 rr => cases rr; cases r; cases r2; exact ⟨i, j, rfl, kt.now k hs (.int _)⟩
theorem c_lenL {ds : List D} (k : Φ (.int ds.length) μ) : wCl X (.builtin "len") [.lst ds] μ Φ := wcl_of call_len_seq fun F H xs hs r1 Q kt => by
  cases r1 with
  | cons r rr =>
    cases rr
    cases r with
    | lst g q =>
      rw [← q.length] at k
      exact ⟨_, _, rfl, .inl (Evl.sq_of (hs.ex _ _ g)), kt.now k hs (.int _)⟩
theorem c_lenC {ds : List D} (k : Φ (.int ds.length) μ) : wCl X (.builtin "len") [.scr ds] μ Φ := wcl_of call_len_seq fun F H xs hs r1 Q kt => by
  cases r1 with
  | cons r rr =>
    cases rr
    cases r with
    | scr g q =>
      rw [← q.length] at k
      exact ⟨_, _, rfl, .inl (Evl.ex_l hs.ex g), kt.now k hs (.int _)⟩
theorem c_lenT {ds : List D} (k : Φ (.int ds.length) μ) : wCl X (.builtin "len") [.tup ds] μ Φ := wcl_of call_len_seq fun F H xs hs r1 Q kt => by
  cases r1 with
  | cons r rr =>
    cases rr
    cases r with
    | tup g q =>
      rw [← q.length] at k
      exact ⟨_, _, rfl, .inr ((Evl.st_of (hs.ex _ _ g))), kt.now k hs (.int _)⟩
theorem c_lenP {q : Addr} {ds : List D} (m : Nat) (hm : μ[m]? = some (q, .lst ds)) (k : Φ (.int ds.length) μ) : wCl X (.builtin "len") [.ptr q] μ Φ := wcl_of call_len_seq fun F H xs hs r1 Q kt => by
  cases r1 with
  | cons r rr =>
    cases rr
    cases r
    obtain ⟨xs, g, r⟩ := hs.lst hm
    rw [← r.length] at k
    exact ⟨_, _, rfl, .inl (Evl.sq_of g), kt.now k hs (.int _)⟩
theorem c_lenS (hz : x.length ≤ sizeLine) (k : Φ (.int x.length) μ) : wCl X (.builtin "len") [.str x] μ Φ := wcl_of call_len_str fun F H xs hs r1 Q kt => by
  cases r1 with
  | cons r rr =>
    cases rr
    cases r
    exact ⟨_, rfl, hz, kt.now k hs (.int _)⟩
theorem c_str (hz : i.natAbs.log2 < 1920) (k : Φ (.str (toString i)) μ) : wCl X (.type "str") [.int i] μ Φ := wcl_of call_str_int fun F H xs hs r1 Q kt => by
  cases r1 with
  | cons r rr =>
    cases rr
    cases r
    exact ⟨_, rfl, hz, kt.now k hs (.str _)⟩
theorem c_intB {t : Bool} (k : Φ (.int (if t then 1 else 0)) μ) : wCl X (.type "int") [.bl t] μ Φ := wcl_of call_int1 fun F H xs hs r1 Q kt => by
  cases r1 with
  | cons r rr =>
    cases rr
    cases r
    exact .inr ⟨_, rfl, kt.now k hs (.int _)⟩
theorem c_intS {n : Int} (h : PySem.intText? x = some n) (hz : x.length ≤ 640) (k : Φ (.int n) μ) : wCl X (.type "int") [.str x] μ Φ := wcl_of call_int_str fun F H xs hs r1 Q kt => by
  cases r1 with
  | cons r rr =>
    cases rr
    cases r
    exact ⟨_, _, rfl, h, hz, kt.now k hs (.int _)⟩
/-- tuple(a list), list(a tuple, a list) -/
theorem c_tupL {ds : List D} (k : Φ (.tup ds) μ) : wCl X (.type "tuple") [.lst ds] μ Φ := wcl_of call_tuple_of fun F H xs hs r1 Q kt => by
  cases r1 with
  | cons r rr =>
    cases rr
    cases r with
    | lst g q =>
      refine ⟨_, _, rfl, .inl ⟨Evl.sq_of (hs.ex _ _ g), fun p hp => ?_⟩⟩
      obtain ⟨s1, s2⟩ := hs.laid (u := .tup _) hp
      exact kt _ _ _ _ _ k s2 s1 (.tup upd_same (q.mono s2))
theorem c_tupP {q : Addr} {ds : List D} (m : Nat) (hm : μ[m]? = some (q, .lst ds)) (k : Φ (.tup ds) μ) : wCl X (.type "tuple") [.ptr q] μ Φ := wcl_of call_tuple_of fun F H xs hs r1 Q kt => by
  cases r1 with
  | cons r rr =>
    cases rr
    cases r
    obtain ⟨xs, g, r⟩ := hs.lst hm
    refine ⟨_, _, rfl, .inl ⟨Evl.sq_of g, fun p hp => ?_⟩⟩
    obtain ⟨s1, s2⟩ := hs.laid (u := .tup _) hp
    exact kt _ _ _ _ _ k s2 s1 (.tup upd_same (r.mono s2))
theorem c_tupT {ds : List D} (k : Φ (.tup ds) μ) : wCl X (.type "tuple") [.tup ds] μ Φ := wcl_of call_tuple_of fun F H xs hs r1 Q kt => by
  cases r1 with
  | cons r rr =>
    cases rr
    cases r with
    | tup g q => exact ⟨_, _, rfl, .inr ⟨(Evl.st_of (hs.ex _ _ g)), kt.now k hs (.tup g q)⟩⟩
theorem c_lstT {ds : List D} (k : ∀ p, Φ (.ptr p) ((p, .lst ds) :: μ)) : wCl X (.type "list") [.tup ds] μ Φ := wcl_of call_list_of fun F H xs hs r1 Q kt => by
  cases r1 with
  | cons r rr =>
    cases rr
    cases r with
    | tup g q => exact ⟨_, _, rfl, .inr ((Evl.st_of (hs.ex _ _ g))), fun p hp => kt _ _ _ _ _ (k p) (Ex.refl F) (hs.cell hp (.lst q)) (.ptr p)⟩
theorem c_lstL {ds : List D} (k : ∀ p, Φ (.ptr p) ((p, .lst ds) :: μ)) : wCl X (.type "list") [.lst ds] μ Φ := wcl_of call_list_of fun F H xs hs r1 Q kt => by
  cases r1 with
  | cons r rr =>
    cases rr
    cases r with
    | lst g q => exact ⟨_, _, rfl, .inl (Evl.sq_of (hs.ex _ _ g)), fun p hp => kt _ _ _ _ _ (k p) (Ex.refl F) (hs.cell hp (.lst q)) (.ptr p)⟩
/-- isinstance -/
theorem w_ty {z : Str} {n : String} (hm : X.mg z = none) (k : Φ (.ty n) μ) (hg : Gl X z := by rfl) (hv : bootBuiltins z = some (.type n) := by decide +kernel) (hn : z ≠ "__name__" := by decide) (hd : (z == ("__debug__" : Str)) = false := by decide) : wE X (.Name z pos) ρ μ Φ := fun F σ H hs sl Q kt =>
  se_of (pe_bltn hg hm hv (v := .ty n) rfl hn hd) (kt.now k hs (.ty n))
/-- the class of a thing -/
def D.cls : D → Option Value
  | .non => some (.type "NoneType")
  | .bl _ => some (.type "bool")
  | .int _ => some (.type "int")
  | .str _ => some (.type "str")
  | .lst _ => some (.type "list")
  | .scr _ => some (.type "list")
  | .tup _ => some (.type "tuple")
  | .tpl _ => some (.type "tuple")
  | _ => none
theorem rep_cls {K : PySem.W.Frag} {F H : Hp} {v : V} {t : Value} (e : Ex F H) (r : Rep K F v d) (h : d.cls = some t) : TyX K H v t := by
  cases r with
  | non => cases h; exact .base .non
  | bl b => cases h; exact .base (.bl b)
  | int b => cases h; exact .base (.int b)
  | str b => cases h; exact .base (.str b)
  | lst g q => cases h; exact .base (.lst (e _ _ g))
  | scr g q =>
    cases h
    rcases Evl.ex_l e g with (g | ⟨o, g⟩) | ⟨o, its, n, g, c, _⟩
    · exact .base (.lst g)
    · exact .base (.frz g)
    · exact .kList g c
  | tup g q =>
    cases h
    rcases (Evl.st_of (e _ _ g)) with (g | ⟨o, g⟩) | ⟨o, its, n, g, c, _⟩
    · exact .base (.tup g)
    · exact .fTuple g
    · exact .kTuple g c
  | tpl g _ _ q => cases h; exact .fTuple (e _ _ g)
  | ptr a => cases h
  | ty n => cases h
  | dct g e2 q => cases h
theorem c_isi {n : String} {t : Value} {k : Bool} (h : d.cls = some t) (hk : PySem.W.kitOne X.K t (.type n) = some k) (q : Φ (.bl k) μ) : wCl X (.builtin "isinstance") [d, .ty n] μ Φ := wcl_of call_isi fun F H xs hs r1 Q kt => by
  cases r1 with
  | cons r rr =>
    cases rr with
    | cons r2 rr =>
      cases rr
      cases r2
      exact ⟨_, _, t, _, k, rfl, .ty n, rep_cls hs.ex r h, hk, kt.now q hs (.bl _)⟩
end
end Oc

/-! Own layer, part 4: methods, dicts. -/
namespace Oc
open PySem PySem.Spec L2
open Evl (Ex)
section
variable {κ : Type} [DecidableEq κ]
def valD (ds : List (κ × D)) (k : κ) : Option D := (ds.find? fun kv => decide (kv.1 = k)).map (·.2)
def putD (ds : List (κ × D)) (k : κ) (v : D) : List (κ × D) := if (ds.any fun kv => decide (kv.1 = k)) = true then ds.map (fun kv => if kv.1 = k then (kv.1, v) else kv) else ds ++ [(k, v)]
theorem valD_nil {k : κ} : valD ([] : List (κ × D)) k = none := rfl
theorem valD_pos {d : D} {r : List (κ × D)} {k : κ} : valD ((k, d) :: r) k = some d := by simp [valD]
theorem valD_neg {p : κ × D} {r : List (κ × D)} {k : κ} (e : ¬ p.1 = k) : valD (p :: r) k = valD r k := by simp [valD, List.find?_cons, e]
theorem RepK.val {K : PySem.W.Frag} {F : Hp} : ∀ {ds : List (κ × D)} {kvs : List (κ × V)}, RepK K F ds kvs → ∀ k, (∀ d, valD ds k = some d → ∃ v, valV kvs k = some v ∧ Rep K F v d) ∧ (valD ds k).isSome = (valV kvs k).isSome
  | _, _, .nil, k => ⟨fun d h => (nomatch h), rfl⟩
  | p :: ds, q :: kvs, .cons r rr, k => by
    obtain ⟨h1, h2⟩ := RepK.val (ds := ds) (kvs := kvs) rr k
    obtain ⟨p1, p2⟩ := p
    obtain ⟨q1, q2⟩ := q
    obtain ⟨e, r⟩ := r
    have e : p1 = q1 := e
    subst e
    by_cases hk : p1 = k
    · subst hk
      rw [valD_pos, valV_pos (p := (p1, q2)) rfl]
      exact ⟨fun d h => by cases h; exact ⟨_, rfl, r⟩, rfl⟩
    · rw [valD_neg (p := (p1, p2)) hk, valV_neg (p := (p1, q2)) hk]
      exact ⟨h1, h2⟩
theorem RepK.len {K : PySem.W.Frag} {F : Hp} {ds : List (κ × D)} {kvs : List (κ × V)} (h : RepK K F ds kvs) : ds.length = kvs.length := Paired.length h
theorem RepK.any {K : PySem.W.Frag} {F : Hp} {k : κ} : ∀ {ds : List (κ × D)} {kvs : List (κ × V)}, RepK K F ds kvs → (ds.any fun kv => decide (kv.1 = k)) = kvs.any fun kv => decide (kv.1 = k)
  | _, _, .nil => rfl
  | p :: ds, q :: kvs, .cons r rr => by rw [List.any_cons, List.any_cons, RepK.any (ds := ds) (kvs := kvs) rr, r.1]
theorem RepK.map {K : PySem.W.Frag} {F : Hp} {k : κ} {v : V} {d : D} (hr : Rep K F v d) : ∀ {ds : List (κ × D)} {kvs : List (κ × V)}, RepK K F ds kvs → RepK K F (ds.map fun kv => if kv.1 = k then (kv.1, d) else kv) (kvs.map fun kv => if kv.1 = k then (kv.1, v) else kv)
  | _, _, .nil => .nil
  | p :: ds, q :: kvs, .cons r rr => by
    refine .cons ?_ (RepK.map hr (ds := ds) (kvs := kvs) rr)
    show (if p.1 = k then (p.1, d) else p).1 = (if q.1 = k then (q.1, v) else q).1 ∧ Rep K F (if q.1 = k then (q.1, v) else q).2 (if p.1 = k then (p.1, d) else p).2
    rw [← r.1]
    by_cases hk : p.1 = k
    · rw [if_pos hk, if_pos hk]; exact ⟨rfl, hr⟩
    · rw [if_neg hk, if_neg hk]; exact r
theorem RepK.snoc {K : PySem.W.Frag} {F : Hp} {k : κ} {v : V} {d : D} (hr : Rep K F v d) : ∀ {ds : List (κ × D)} {kvs : List (κ × V)}, RepK K F ds kvs → RepK K F (ds ++ [(k, d)]) (kvs ++ [(k, v)])
  | _, _, .nil => .cons ⟨rfl, hr⟩ .nil
  | p :: ds, q :: kvs, .cons r rr => .cons r (RepK.snoc hr (ds := ds) (kvs := kvs) rr)
theorem RepK.put {K : PySem.W.Frag} {F : Hp} {k : κ} {v : V} {d : D} (hr : Rep K F v d) {ds : List (κ × D)} {kvs : List (κ × V)} (h : RepK K F ds kvs) : RepK K F (putD ds k d) (putK kvs k v) := by
  unfold putD putK
  rw [← h.any]
  split
  · exact h.map hr
  · exact h.snoc hr
end
def kD : Key → D
  | .inl i => .int i
  | .inr x => .str x
theorem rep_kD {K : PySem.W.Frag} {F : Hp} {v : V} {k : Key} (r : Rep K F v (kD k)) : v = kV k := by
  cases k <;> (cases r; rfl)
theorem rep_kDs {K : PySem.W.Frag} {F : Hp} : ∀ {ks : List Key} {vs : List V}, Reps K F vs (ks.map kD) → vs = ks.map kV
  | [], _, .nil => rfl
  | k :: ks, _, .cons r rr => by rw [rep_kD r, rep_kDs rr]; rfl
def mergeD (ds more : List (Key × D)) : List (Key × D) := more.foldl (fun acc kv => putD acc kv.1 kv.2) ds
theorem RepK.merge {K : PySem.W.Frag} {F : Hp} : ∀ {ds' : List (Key × D)} {kvs' : List (Key × V)} {ds : List (Key × D)} {kvs : List (Key × V)}, RepK K F ds' kvs' → RepK K F ds kvs → RepK K F (mergeD ds ds') (mergeK kvs kvs')
  | _, _, _, _, .nil, h => h
  | p :: ds', q :: kvs', ds, kvs, .cons r rr, h => by
    have h1 := h.put (k := p.1) r.2
    have e : putK kvs p.1 q.2 = putK kvs q.1 q.2 := by rw [r.1]
    rw [e] at h1
    exact RepK.merge (ds' := ds') (kvs' := kvs') rr h1
section
variable {X : Cy} {e a b c o k v : Expr} {es : List Expr} {ρ : Rho} {μ : Mu} {Φ : D → Mu → Prop} {d d1 d2 : D} {i j : Int} {x y : Str} {pos p apos cpos : Pos} {E : En} {ΦS : Rho → Mu → Prop}
/-! methods of lists and texts -/
theorem tyD_V {K : KF} {F H : Hp} {T : String} {u : V} (hs : Hs K F μ H) (r : Rep K F u d) (h : tyD T d μ) (hT : T ≠ "tuple") : tyV K T u H := by
  cases r with
  | str x => exact h
  | lst g q => exact .inl ⟨h, _, Evl.sq_of (hs.ex _ _ g)⟩
  | scr g q => exact .inl ⟨h, _, Evl.ex_l hs.ex g⟩
  | tup g q => exact absurd h hT
  | tpl g _ _ q => exact absurd h hT
  | ptr a =>
    rcases h with ⟨h, i, l, hi⟩ | ⟨h, i, l, hi⟩ | ⟨h, i, l, hi⟩
    · obtain ⟨xs, g, _⟩ := hs.lst hi
      exact .inl ⟨h, _, Evl.sq_of g⟩
    · obtain ⟨xs, g, _⟩ := hs.dk hi
      exact .inr (.inr (.inl ⟨h, .inl ⟨_, g⟩⟩))
    · obtain ⟨xs, g, _⟩ := hs.dt hi
      exact .inr (.inr (.inl ⟨h, .inr ⟨_, g⟩⟩))
  | non => exact h.elim
  | bl b => exact h.elim
  | int b => exact h.elim
  | ty b => exact h.elim
  | dct g e2 q => exact h.elim
def sMt (X : Cy) (id : String) : V → List V → Hp → VK → Prop := fun x xs H Q => ∀ (pins : List (Addr × Obj)) (s : Shared) (σ : L2.St) (v : Value) (us : List Value), Inv X pins σ H s → RelV x v → Vals xs us → wpAny (model X.prog X.w) X.A (call (.builtin id) (v :: us)) (EP X pins σ Q) X.xe s
theorem mt_s {X : Cy} {id : String} : MtR X id (sMt X id) := fun pins s σ H x xs v us Q I rx rv h => h pins s σ v us I rx rv
theorem wmt_of {X : Cy} {T id : String} {r : V → List V → Hp → VK → Prop} {ds : List D} {μ : Mu} {Φ : D → Mu → Prop} {d : D} (hm : MtR X id r) (h : ∀ F H x xs, Hs X.K F μ H → Rep X.K F x d → Reps X.K F xs ds → ∀ Q, Kont X.K F Φ Q → r x xs H Q) : wMt X T id d ds μ Φ :=
  fun F H x xs hs r1 r2 Q kt pins s σ v us I rv ru => hm pins s σ H x xs v us Q I rv ru (h F H x xs hs r1 r2 Q kt)
/-- o.m(e, ..) of a built-in type -/
theorem w_bm {T id : String} {name : Str} (hT : T ≠ "tuple") (pa : PlainAttrs T) (slot : Slot T name id) (hty : typeOf (.builtin id) = pure (.type "method_descriptor")) (h : wE X o ρ μ fun d μ1 => tyD T d μ1 ∧ wA X (e :: es) ρ μ1 fun ds μ2 => wMt X T id d ds μ2 Φ)
    (hbase : attributeBase o name X.env (eval o X.env) = eval o X.env := by rfl)
    (hfew : ((backTo cpos (starEach (e :: es) X.env)).all (fun x => !x.1) && (backToKw cpos (keywordEach [] X.env)).all (fun x => x.1.isSome)
      && decide ((e :: es).length + ([] : List Keyword).length + (if ([] : List Keyword).isEmpty then 0 else 1) < 30)) = true := by rfl)
    (hline : (apos.endLine == cpos.line) = true := by rfl) (hs : starEach (e :: es) X.env = (false, eval e X.env) :: starEach es X.env := by rfl) (hplain : (backTo cpos (starEach es X.env)).any (·.1) = false := by rfl) :
    wE X (.Call (.Attribute o name apos) (e :: es) [] cpos) ρ μ Φ := fun F σ H hh sl Q kt =>
  se_of (pe_bm pa slot hty (mt_s (X := X)) pe_s pa_s hbase hfew hline hs hplain) (h F σ H hh sl _ fun u F1 H1 d μ1 ⟨q1, q⟩ e1 hs1 r1 => ⟨tyD_V hs1 r1 q1 hT, q F1 σ H1 hs1 (sl.mono e1) _ fun us F2 H2 ds μ2 q2 e2 hs2 r2 => q2 F2 H2 u us hs2 (r1.mono e2) r2 Q (kt.mono (e1.trans e2))⟩)
theorem w_bm0 {T id : String} {name : Str} (hT : T ≠ "tuple") (pa : PlainAttrs T) (slot : Slot T name id) (hty : typeOf (.builtin id) = pure (.type "method_descriptor")) (h : wE X o ρ μ fun d μ1 => tyD T d μ1 ∧ wMt X T id d [] μ1 Φ)
    (hbase : attributeBase o name X.env (eval o X.env) = eval o X.env := by rfl) (hline : (apos.endLine == cpos.line) = true := by rfl) : wE X (.Call (.Attribute o name apos) [] [] cpos) ρ μ Φ := fun F σ H hh sl Q kt =>
  se_of (pe_bm0 pa slot hty (mt_s (X := X)) pe_s hbase hline) (h F σ H hh sl _ fun u F1 H1 d μ1 ⟨q1, q⟩ e1 hs1 r1 => ⟨tyD_V hs1 r1 q1 hT, q F1 H1 u [] hs1 r1 .nil Q (kt.mono e1)⟩)
theorem m_append {q : Addr} {ds : List D} (m : Nat) (hm : μ[m]? = some (q, .lst ds)) (hz : ds.length < 1000000) (k : Φ .non (μ.set m (q, .lst (ds ++ [d])))) : wMt X "list" "list.append" (.ptr q) [d] μ Φ := wmt_of mt_append fun F H u us hs r1 r2 Q kt => by
  cases r1
  cases r2 with
  | cons r rr =>
    cases rr
    obtain ⟨xs, g, rx⟩ := hs.lst hm
    refine ⟨_, _, _, rfl, rfl, g, Nat.lt_trans (by rw [rx.length]; exact hz) (show 1000000 < sizeLine by decide), ?_⟩
    exact kt.now k (hs.write hm (.lst (rx.append (.one r)))) .non
theorem m_pop {q : Addr} {ds : List D} (m : Nat) (hm : μ[m]? = some (q, .lst ds)) (hd : ds[ds.length - 1]? = some d) (k : Φ d (μ.set m (q, .lst ds.dropLast))) : wMt X "list" "list.pop" (.ptr q) [] μ Φ := wmt_of mt_pop fun F H u us hs r1 r2 Q kt => by
  cases r1
  cases r2
  obtain ⟨xs, g, rx⟩ := hs.lst hm
  obtain ⟨v, h1, h2⟩ := rx.get hd
  rw [← rx.length] at h1
  refine ⟨_, _, v, rfl, rfl, g, h1, ?_⟩
  refine kt.now k (hs.write hm (.lst ?_)) h2
  rw [List.dropLast_eq_take, List.dropLast_eq_take, rx.length]
  exact rx.take _
theorem m_reverse {q : Addr} {ds : List D} (m : Nat) (hm : μ[m]? = some (q, .lst ds)) (k : Φ .non (μ.set m (q, .lst ds.reverse))) : wMt X "list" "list.reverse" (.ptr q) [] μ Φ := wmt_of mt_reverse fun F H u us hs r1 r2 Q kt => by
  cases r1
  cases r2
  obtain ⟨xs, g, rx⟩ := hs.lst hm
  exact ⟨_, _, rfl, rfl, g, kt.now k (hs.write hm (.lst rx.reverse)) .non⟩
theorem m_extend {q : Addr} {ds fs : List D} (m : Nat) (hm : μ[m]? = some (q, .lst ds)) (hz : ds.length + fs.length ≤ 1000000) (k : Φ .non (μ.set m (q, .lst (ds ++ fs)))) : wMt X "list" "list.extend" (.ptr q) [.lst fs] μ Φ := wmt_of mt_extend fun F H u us hs r1 r2 Q kt => by
  cases r1
  cases r2 with
  | cons r rr =>
    cases rr
    cases r with
    | lst g2 r2 =>
      obtain ⟨xs, g, rx⟩ := hs.lst hm
      exact ⟨_, _, _, _, rfl, rfl, g, hs.ex _ _ g2, Nat.le_trans (by rw [rx.length, r2.length]; exact hz) (show 1000000 ≤ sizeLine by decide), kt.now k (hs.write hm (.lst (rx.append r2))) .non⟩
theorem m_join {ys : List Str} (hd : (∃ ds : List D, (d = .lst ds ∨ d = .tup ds) ∧ ds = ys.map D.str) ∨ ∃ (m : Nat) (q : Addr), d = .ptr q ∧ μ[m]? = some (q, MO.lst (ys.map D.str))) (hz : (ys.map (·.length)).sum + ys.length * x.length ≤ 16777216) (k : Φ (.str (Txt.join x ys)) μ) : wMt X "str" "str.join" (.str x) [d] μ Φ := wmt_of mt_join fun F H u us hs r1 r2 Q kt => by
  cases r1
  cases r2 with
  | cons r rr =>
    cases rr
    rcases hd with ⟨ds, hd | hd, e⟩ | ⟨m, q, rfl, hm⟩
    · subst hd
      cases r with
      | lst g rx =>
        subst e
        rw [reps_strs rx] at g
        exact ⟨x, _, ys, rfl, rfl, .inl (Evl.sq_of (hs.ex _ _ g)), hz, kt.now k hs (.str _)⟩
    · subst hd
      cases r with
      | tup g rx =>
        subst e
        rw [reps_strs rx] at g
        exact ⟨x, _, ys, rfl, rfl, .inr ((Evl.st_of (hs.ex _ _ g))), hz, kt.now k hs (.str _)⟩
    · cases r
      obtain ⟨xs, g, rx⟩ := hs.lst hm
      rw [reps_strs rx] at g
      exact ⟨x, _, ys, rfl, rfl, .inl (Evl.sq_of g), hz, kt.now k hs (.str _)⟩
theorem w_append (h : wE X o ρ μ fun d μ1 => tyD "list" d μ1 ∧ wA X [e] ρ μ1 fun ds μ2 => wMt X "list" "list.append" d ds μ2 Φ)
    (hbase : attributeBase o "append" X.env (eval o X.env) = eval o X.env := by rfl)
    (hfew : ((backTo cpos (starEach [e] X.env)).all (fun x => !x.1) && (backToKw cpos (keywordEach [] X.env)).all (fun x => x.1.isSome)
      && decide (([e] : List Expr).length + ([] : List Keyword).length + (if ([] : List Keyword).isEmpty then 0 else 1) < 30)) = true := by rfl)
    (hline : (apos.endLine == cpos.line) = true := by rfl) (hs : starEach [e] X.env = (false, eval e X.env) :: starEach [] X.env := by rfl) :
    wE X (.Call (.Attribute o "append" apos) [e] [] cpos) ρ μ Φ := w_bm (by decide) PySem.F.plainAttrs_list PySem.F.slot_list_append PySem.F.type_list_append h hbase hfew hline hs rfl
theorem w_extend (h : wE X o ρ μ fun d μ1 => tyD "list" d μ1 ∧ wA X [e] ρ μ1 fun ds μ2 => wMt X "list" "list.extend" d ds μ2 Φ)
    (hbase : attributeBase o "extend" X.env (eval o X.env) = eval o X.env := by rfl)
    (hfew : ((backTo cpos (starEach [e] X.env)).all (fun x => !x.1) && (backToKw cpos (keywordEach [] X.env)).all (fun x => x.1.isSome)
      && decide (([e] : List Expr).length + ([] : List Keyword).length + (if ([] : List Keyword).isEmpty then 0 else 1) < 30)) = true := by rfl)
    (hline : (apos.endLine == cpos.line) = true := by rfl) (hs : starEach [e] X.env = (false, eval e X.env) :: starEach [] X.env := by rfl) :
    wE X (.Call (.Attribute o "extend" apos) [e] [] cpos) ρ μ Φ := w_bm (by decide) PySem.F.plainAttrs_list PySem.F.slot_list_extend PySem.F.type_list_extend h hbase hfew hline hs rfl
theorem w_pop (h : wE X o ρ μ fun d μ1 => tyD "list" d μ1 ∧ wMt X "list" "list.pop" d [] μ1 Φ) (hbase : attributeBase o "pop" X.env (eval o X.env) = eval o X.env := by rfl) (hline : (apos.endLine == cpos.line) = true := by rfl) :
    wE X (.Call (.Attribute o "pop" apos) [] [] cpos) ρ μ Φ := w_bm0 (by decide) PySem.F.plainAttrs_list PySem.F.slot_list_pop PySem.F.type_list_pop h hbase hline
theorem w_reverse (h : wE X o ρ μ fun d μ1 => tyD "list" d μ1 ∧ wMt X "list" "list.reverse" d [] μ1 Φ) (hbase : attributeBase o "reverse" X.env (eval o X.env) = eval o X.env := by rfl) (hline : (apos.endLine == cpos.line) = true := by rfl) :
    wE X (.Call (.Attribute o "reverse" apos) [] [] cpos) ρ μ Φ := w_bm0 (by decide) PySem.F.plainAttrs_list PySem.F.slot_list_reverse PySem.F.type_list_reverse h hbase hline
theorem w_join (h : wE X o ρ μ fun d μ1 => tyD "str" d μ1 ∧ wE X e ρ μ1 fun d2 μ2 => wMt X "str" "str.join" d [d2] μ2 Φ)
    (hbase : attributeBase o "join" X.env (eval o X.env) = eval o X.env := by rfl) (hline : (apos.endLine == cpos.line) = true := by rfl) (hs : starEach [e] X.env = [(false, eval e X.env)] := by rfl) :
    wE X (.Call (.Attribute o "join" apos) [e] [] cpos) ρ μ Φ := fun F σ H hh sl Q kt =>
  se_of (pe_m1 PySem.F.slot_str_join PySem.F.type_str_join (mt_s (X := X)) pe_s pe_s hs hbase hline) (h F σ H hh sl _ fun u F1 H1 d μ1 ⟨q1, q⟩ e1 hs1 r1 => by
    cases d with
    | str z =>
      cases r1
      exact ⟨⟨z, rfl⟩, q F1 σ H1 hs1 (sl.mono e1) _ fun w F2 H2 d2 μ2 q2 e2 hs2 r2 => q2 F2 H2 _ [w] hs2 (.str z) (.one r2) Q (kt.mono (e1.trans e2))⟩
    | _ => simp [tyD] at q1)
/-! dicts with keys ints and texts -/
theorem w_dget (hu : X.c.A.units + 1 < cLine) (h : wE X o ρ μ fun d1 μ1 => wE X k ρ μ1 fun d2 μ2 => ∃ (q : Addr) (m : Nat) (ds : List (Key × D)) (kk : Key) (d : D), d1 = .ptr q ∧ d2 = kD kk ∧ μ2[m]? = some (q, MO.dk ds) ∧ valD ds kk = some d ∧ Φ d μ2) (hs : NoSl k := by exact fun _ _ => rfl) : wE X (.Subscript o k pos) ρ μ Φ := fun F σ H hh sl Q kt =>
  se_of (pe_dget hu pe_s pe_s hs) (binW h hh sl fun x y F2 H2 d1 d2 μ2 ⟨q, m, ds, kk, d, h1, h2, hm, hv, z⟩ e hs2 r1 r2 => by
    subst h1
    subst h2
    cases r1
    have e2 := rep_kD r2
    subst e2
    obtain ⟨kvs, g, rk⟩ := hs2.dk hm
    obtain ⟨v, hv, rv⟩ := (rk.val kk).1 d hv
    exact ⟨q, v, rfl, by rw [← hv]; exact DGet.k g, kt _ _ _ _ _ z e hs2 rv⟩)
theorem w_dput (hu : X.c.A.units + 1 < cLine) {q0 : Pos} (h : wE X e ρ μ fun d μ0 => wE X o ρ μ0 fun d1 μ1 => wE X k ρ μ1 fun d2 μ2 => ∃ (q : Addr) (m : Nat) (ds : List (Key × D)) (kk : Key), d1 = .ptr q ∧ d2 = kD kk ∧ μ2[m]? = some (q, MO.dk ds) ∧ ds.length < 1000000 ∧ E.nx ρ (μ2.set m (q, .dk (putD ds kk d))))
    (hs : swapsWith e (some (.Subscript o k q0)) pos.line X.env = pure false := by rfl) : wS X (.Assign [.Subscript o k q0] e pos) ρ μ E := fun F σ H hh sl D kt =>
  ss_of (ps_dput hu pe_s pe_s pe_s hs) (h F σ H hh sl _ fun v F0 H0 d μ0 h0 e0 hs0 r0 => binW (R := fun x y H2 => ∃ a H4, x = .ref a ∧ DPut H2 a y v H4 ∧ D.nx σ H4) h0 hs0 (sl.mono e0) fun x y F2 H2 d1 d2 μ2 ⟨q, m, ds, kk, h1, h2, hm, hz, z⟩ e hs2 r1 r2 => by
    subst h1
    subst h2
    cases r1
    have e2 := rep_kD r2
    subst e2
    obtain ⟨kvs, g, rk⟩ := hs2.dk hm
    have hz' : kvs.length < sizeLine := Nat.lt_trans (by rw [← rk.len]; exact hz) (show 1000000 < sizeLine by decide)
    exact ⟨q, _, rfl, DPut.k g hz', kt.nx F2 _ σ ρ _ z (e0.trans e) (hs2.write hm (.dk (rk.put (r0.mono e)))) (sl.mono (e0.trans e))⟩)
theorem w_din (hu : X.c.A.units + 1 < cLine) (h : wE X k ρ μ fun d2 μ1 => wE X o ρ μ1 fun d1 μ2 => ∃ (q : Addr) (m : Nat) (ds : List (Key × D)) (kk : Key), d1 = .ptr q ∧ d2 = kD kk ∧ μ2[m]? = some (q, MO.dk ds) ∧ Φ (.bl (valD ds kk).isSome) μ2) (hm : behindInMarks .In o = false := by rfl) : wE X (.Compare k [.In] [o] pos) ρ μ Φ := fun F σ H hh sl Q kt =>
  se_of (pe_cmp (pc_din hu pe_s pe_s) hm) (binW h hh sl fun y x F2 H2 d2 d1 μ2 ⟨q, m, ds, kk, h1, h2, hm, z⟩ e hs2 r2 r1 => by
    subst h1
    subst h2
    cases r1
    have e2 := rep_kD r2
    subst e2
    obtain ⟨kvs, g, rk⟩ := hs2.dk hm
    refine ⟨q, _, rfl, DGet.k g, ?_⟩
    rw [← (rk.val kk).2]
    exact kt _ _ _ _ _ z e hs2 (.bl _))
theorem w_dnin (hu : X.c.A.units + 1 < cLine) (h : wE X k ρ μ fun d2 μ1 => wE X o ρ μ1 fun d1 μ2 => ∃ (q : Addr) (m : Nat) (ds : List (Key × D)) (kk : Key), d1 = .ptr q ∧ d2 = kD kk ∧ μ2[m]? = some (q, MO.dk ds) ∧ Φ (.bl (!(valD ds kk).isSome)) μ2) (hm : behindInMarks .NotIn o = false := by rfl) : wE X (.Compare k [.NotIn] [o] pos) ρ μ Φ := fun F σ H hh sl Q kt =>
  se_of (pe_cmp (pc_dnotin hu pe_s pe_s) hm) (binW h hh sl fun y x F2 H2 d2 d1 μ2 ⟨q, m, ds, kk, h1, h2, hm, z⟩ e hs2 r2 r1 => by
    subst h1
    subst h2
    cases r1
    have e2 := rep_kD r2
    subst e2
    obtain ⟨kvs, g, rk⟩ := hs2.dk hm
    refine ⟨q, _, rfl, DGet.k g, ?_⟩
    rw [← (rk.val kk).2]
    exact kt _ _ _ _ _ z e hs2 (.bl _))
/-- the pairs of a display -/
def wP (X : Cy) (ρ : Rho) : List (Option Expr) → List Expr → Mu → (List (D × D) → Mu → Prop) → Prop
  | [], [], μ, Ψ => Ψ [] μ
  | some k :: ks, v :: vs, μ, Ψ => wE X k ρ μ fun dk μ1 => wE X v ρ μ1 fun dv μ2 => wP X ρ ks vs μ2 fun ps μ3 => Ψ ((dk, dv) :: ps) μ3
  | _, _, _, _ => False
def sPs (X : Cy) : List (Option Expr) → List Expr → List (TE × TE)
  | some k :: ks, v :: vs => (sE X k, sE X v) :: sPs X ks vs
  | _, _ => []
inductive RepP (K : PySem.W.Frag) (F : Hp) : List (V × V) → List (D × D) → Prop
  | nil : RepP K F [] []
  | cons {u v : V} {d e : D} {ps : List (V × V)} {ds : List (D × D)} : Rep K F u d → Rep K F v e → RepP K F ps ds → RepP K F ((u, v) :: ps) ((d, e) :: ds)
theorem wP.pps {ρ : Rho} : ∀ {ks : List (Option Expr)} {vs : List Expr}, ks.all (·.isSome) = true → ks.length = vs.length → ∀ pos, PPs X pos ks vs (sPs X ks vs)
  | [], [], _, _, pos => pps_nil
  | some k :: ks, v :: vs, h, hl, pos => pps_cons pe_s pe_s (wP.pps (ρ := ρ) (ks := ks) (vs := vs) (by simpa using h) (by simpa using hl) pos)
  | some _ :: _, [], _, h, _ => by simp at h
  | none :: _, _, h, _, _ => by simp at h
  | [], _ :: _, _, h, _ => by simp at h
theorem wP.go {ρ : Rho} : ∀ {ks : List (Option Expr)} {vs : List Expr} {μ : Mu} {Ψ : List (D × D) → Mu → Prop}, wP X ρ ks vs μ Ψ → ∀ {F : Hp} {σ : L2.St} {H : Hp}, Hs X.K F μ H → Sl X.K F ρ σ → ∀ {Q : List (V × V) → Hp → Prop}, (∀ ps F' H' ds μ', Ψ ds μ' → Ex F F' → Hs X.K F' μ' H' → RepP X.K F' ps ds → Q ps H') →
    tPairs (sPs X ks vs) σ H Q
  | [], [], μ, Ψ, h, F, σ, H, hs, sl, Q, kt => kt [] F H [] μ h (Ex.refl F) hs .nil
  | some k :: ks, v :: vs, μ, Ψ, h, F, σ, H, hs, sl, Q, kt => h F σ H hs sl _ fun x F1 H1 d1 μ1 h1 e1 hs1 r1 => h1 F1 σ H1 hs1 (sl.mono e1) _ fun y F2 H2 d2 μ2 h2 e2 hs2 r2 =>
    wP.go (ks := ks) (vs := vs) h2 hs2 (sl.mono (e1.trans e2)) fun ps F3 H3 ds μ3 h3 e3 hs3 r3 => kt _ F3 H3 _ μ3 h3 (e1.trans (e2.trans e3)) hs3 (.cons (r1.mono (e2.trans e3)) (r2.mono e3) r3)
  | some _ :: _, [], μ, Ψ, h, F, σ, H, hs, sl, Q, kt => h.elim
  | none :: _, _, μ, Ψ, h, F, σ, H, hs, sl, Q, kt => h.elim
  | [], _ :: _, μ, Ψ, h, F, σ, H, hs, sl, Q, kt => h.elim
theorem repP_k {K : PySem.W.Frag} {F : Hp} : ∀ {kds : List (Key × D)} {ps : List (V × V)}, RepP K F ps (kds.map fun kv => (kD kv.1, kv.2)) → ∃ kvs : List (Key × V), ps = kvs.map (fun kv => (kV kv.1, kv.2)) ∧ RepK K F kds kvs
  | [], _, .nil => ⟨[], rfl, .nil⟩
  | (k, d) :: kds, _, .cons r1 r2 rr => by
    obtain ⟨kvs, h1, h2⟩ := repP_k rr
    refine ⟨(k, _) :: kvs, ?_, .cons ⟨rfl, r2⟩ h2⟩
    rw [rep_kD r1, h1]
    rfl
/-- {k: v, ..}: a new cell -/
theorem w_disp {ks : List (Option Expr)} {vs : List Expr} (h0 : ks ≠ []) (hall : ks.all (·.isSome) = true) (hl : ks.length = vs.length) (h15 : ks.length ≤ 15)
    (h : ∀ q, wP X ρ ks vs ((q, .dk []) :: μ) fun ps μ1 => ∃ (kds : List (Key × D)) (μ2 : Mu), ps = kds.map (fun kv => (kD kv.1, kv.2)) ∧ kds.length ≤ 15 ∧ μ1 = (q, MO.dk []) :: μ2 ∧ Φ (.ptr q) ((q, MO.dk (mergeD [] kds)) :: μ2)) : wE X (.Dict ks vs pos) ρ μ Φ := fun F σ H hh sl Q kt =>
  se_of (pe_disp (wP.pps (ρ := ρ) hall hl pos) hall hl h0 h15) fun q hq => (h q).go (hh.cell hq (.dk .nil)) sl fun ps F1 H1 ds μ1 ⟨kds, μ2, h1, h2, h3, h4⟩ e1 hs1 r1 => by
    subst h1
    subst h3
    obtain ⟨kvs0, g, rk0⟩ := hs1.dk (i := 0) rfl
    cases rk0
    obtain ⟨kvs, h5, h6⟩ := repP_k r1
    exact ⟨g, kvs, h5, by rw [← h6.len]; exact h2, kt _ F1 _ _ _ h4 e1 (hs1.write (i := 0) rfl (.dk (h6.merge .nil))) (.ptr q)⟩
theorem w_dnew (h : ∀ q, Φ (.ptr q) ((q, .dk []) :: μ)) : wE X (.Dict [] [] pos) ρ μ Φ := fun F σ H hh sl Q kt => se_of pe_dnewK fun q hq => kt _ F _ _ _ (h q) (Ex.refl F) (hh.cell hq (.dk .nil)) (.ptr q)
theorem w_dnewT (h : ∀ q, Φ (.ptr q) ((q, .dt []) :: μ)) : wE X (.Dict [] [] pos) ρ μ Φ := fun F σ H hh sl Q kt => se_of pe_dnewT fun q hq => kt _ F _ _ _ (h q) (Ex.refl F) (hh.cell hq (.dt .nil)) (.ptr q)
end
end Oc
namespace Oc
open PySem PySem.Spec L2
open Evl (Ex)
section
variable {P : Program} {w : World} {K : PySem.W.Frag} {mg : Str → Option Value} {base : Heap}
/-- a def of the text as it stands behind the top -/
structure Src (K : PySem.W.Frag) (mg : Str → Option Value) (x : Str) (st : Stmt) (ps : List Str) : Prop where
  ex : ∃ f fd, Fun K x x st f fd ∧ mg x = some (.ref f) ∧ Binds K fd ps []
theorem src_mk {x : Str} {st : Stmt} {ps : List Str} {f : Addr} {oc : Value} {od an : Option Addr} {osl : Array (Option Value)} {kV doc pm cdv ct : Value} (hm : mg x = some (.ref f)) (l : K.lookup f = some ⟨oc, od, .func (PySem.W.fnOf x x (defArgs st) (defBody st) (defScope st) .none kV doc pm an cdv ct), osl⟩)
    (c : PySem.W.codeIn K cdv x = true) (k : PySem.W.keepIn K (.ref f) = true)
    (h : ∀ (kV doc pm : Value) (an : Option Addr) (cdv ct : Value) (us : List Value), us.length = ps.length → bindArgs (PySem.W.fnOf x x (defArgs st) (defBody st) (defScope st) .none kV doc pm an cdv ct) ⟨us, []⟩ = pure (ps.zip us)) : Src K mg x st ps :=
  ⟨f, _, fun_mk l c k, hm, (fun_mk l c k).binds h⟩
end
section
variable {X : Cy} {e : Expr} {es : List Expr} {st : Stmt} {sts : List Stmt} {ρ : Rho} {μ : Mu} {Φ : D → Mu → Prop} {E : En} {pos p : Pos}
/-- a word between a statement and the rest -/
theorem w_cut (M : Rho → Mu → Prop) (h : wS X st ρ μ { E with nx := M }) (k : ∀ ρ' μ', M ρ' μ' → wSs X sts ρ' μ' E) : wSs X (st :: sts) ρ μ E := fun F σ H hs sl D kt =>
  w_cons (E := E) (fun F σ H hs sl D kt => h F σ H hs sl _ ⟨fun F1 H1 σ1 ρ1 μ1 q e1 hs1 sl1 => kt.nx F1 H1 σ1 ρ1 μ1 (k ρ1 μ1 q) e1 hs1 sl1, kt.rt, kt.bk, kt.ct⟩) F σ H hs sl D kt
end
/-- the end: law(script) -/
def S_law : FS := fun ds μ Φ => ∃ ns : List Int, ds = [.scr (ns.map D.int)] ∧ ns.length ≤ 63 ∧ ∀ μ', Φ (.bl true) μ'
theorem law_end {K : PySem.W.Frag} {a : Addr} {ns : List Int} {H : Hp} {Q : VK} {E : XK} (hS : SqL K H a (ns.map V.int)) (hl : ns.length ≤ 63) (q : ∀ H', Q (.bl true) H') : spD K S_law [.ref a] H Q E :=
  ⟨fun _ => none, H, [.scr (ns.map D.int)], [], fun d _ => d = .bl true, Hs.of_still (fun a o z => nomatch z), .one (.scr hS (reps_map (fun n => .int n) ns)), ⟨ns, rfl, hl, fun _ => rfl⟩, fun v F' H' d μ' h _ _ r => by subst h; cases r; exact q H'⟩
end Oc

/-! Own layer, part 5: lists of whole numbers compared. -/
namespace Oc
open PySem PySem.Spec L2
open Evl (Ex)
theorem pys_map {α : Type} {f : α → D} : ∀ l : List α, D.pys (l.map f) = l.map fun a => (f a).py
  | [] => by rw [List.map_nil, List.map_nil, D.pys]
  | a :: l => by rw [List.map_cons, List.map_cons, D.pys, pys_map l]
theorem stills_map {α : Type} {f : α → D} (h : ∀ a, (f a).still = true) : ∀ l : List α, D.stills (l.map f) = true
  | [] => by rw [List.map_nil, D.stills]
  | a :: l => by rw [List.map_cons, D.stills, h a, stills_map h l]; rfl
theorem eqvAll_ints : ∀ ns ms : List Int, PyData.eqvAll (ns.map PyData.int) (ms.map PyData.int) = decide (ns = ms)
  | [], [] => by simp [PyData.eqvAll]
  | [], _ :: _ => by simp [PyData.eqvAll]
  | _ :: _, [] => by simp [PyData.eqvAll]
  | n :: ns, m :: ms => by
    rw [List.map_cons, List.map_cons, PyData.eqvAll, PyData.eqv, eqvAll_ints ns ms, Bool.eq_iff_iff]
    simp
theorem canLay_ints : ∀ ns : List Int, PyData.canLayAll0 (ns.map PyData.int) = true
  | [] => by simp [PyData.canLayAll0]
  | n :: ns => by rw [List.map_cons, PyData.canLayAll0, PyData.canLay0, canLay_ints ns]; rfl
theorem depth_ints : ∀ ns : List Int, PyData.depthAll (ns.map PyData.int) ≤ 1
  | [] => by simp [PyData.depthAll]
  | n :: ns => by
    have h := depth_ints ns
    rw [List.map_cons, PyData.depthAll]
    simp only [PyData.depth] at *
    omega
theorem shaped_ints (ns : List Int) : SeqAt.shaped (.list (ns.map PyData.int)) = true := by
  unfold SeqAt.shaped
  have h := depth_ints ns
  rw [Bool.and_eq_true]
  refine ⟨by rw [PyData.canLay0]; exact canLay_ints ns, decide_eq_true ?_⟩
  simp only [PyData.depth]
  omega
section
variable {X : Cy} {μ : Mu} {Φ : D → Mu → Prop}
theorem py_ints (ns : List Int) : (D.lst (ns.map D.int)).py = .list (ns.map PyData.int) := by
  rw [D.py, pys_map]
  rfl
theorem o_eqIL (hu : X.c.A.units + 64 < cLine) (ns ms : List Int) {d1 d2 : D} (h1 : d1 = .lst (ns.map D.int)) (h2 : d2 = .lst (ms.map D.int)) (k : Φ (.bl (decide (ns = ms))) μ) : wOp X (compareOp .Eq) d1 d2 μ Φ := by
  subst h1 h2
  refine o_eqD hu (by rw [D.still]; exact stills_map (fun _ => rfl) ns) (by rw [D.still]; exact stills_map (fun _ => rfl) ms) (by rw [py_ints]; exact shaped_ints ns) (by rw [py_ints]; exact shaped_ints ms) ?_
  rw [py_ints, py_ints, PyData.eqv, eqvAll_ints]
  exact k
theorem o_neIL (hu : X.c.A.units + 64 < cLine) (ns ms : List Int) {d1 d2 : D} (h1 : d1 = .lst (ns.map D.int)) (h2 : d2 = .lst (ms.map D.int)) (k : Φ (.bl (!decide (ns = ms))) μ) : wOp X (compareOp .NotEq) d1 d2 μ Φ := by
  subst h1 h2
  refine o_neD hu (by rw [D.still]; exact stills_map (fun _ => rfl) ns) (by rw [D.still]; exact stills_map (fun _ => rfl) ms) (by rw [py_ints]; exact shaped_ints ns) (by rw [py_ints]; exact shaped_ints ms) ?_
  rw [py_ints, py_ints, PyData.eqv, eqvAll_ints]
  exact k
end
end Oc
namespace Oc
open PySem PySem.Spec L2
theorem wt_b {X : Cy} {e : Expr} {ρ : Rho} {μ : Mu} {ΦT : Bool → Mu → Prop} (b : Bool) (h : wT X e ρ μ fun k μ1 => k = b ∧ μ1 = μ) (q : ΦT b μ) : wT X e ρ μ ΦT := wt_mono h fun k μ1 ⟨h1, h2⟩ => by subst h1 h2; exact q
end Oc

/-! Own layer, guarded: a def's promise where no repr is under way, so that repr of nested data may be told. -/
namespace Oc
open PySem PySem.Spec L2
open Evl (Ex)
/-- room, and no repr under way -/
structure Rm (k : Nat) (A : Around) : Prop where
  r : Room k A
  g : A.guards = some []
theorem Rm.le {j k : Nat} {A : Around} (h : Rm k A) (q : j ≤ k) : Rm j A := ⟨h.r.mono q, h.g⟩
theorem Rm.units {k : Nat} {A : Around} (h : Rm k A) : A.units + 64 < cLine := h.r.units
theorem Rm.in {k : Nat} {A : Around} (h : Rm (k + 1) A) (env : Env) : Rm k (A.deeper env) := ⟨h.r.deeper env, h.g⟩
/-- a def's promise, where no repr is under way -/
structure FnG (P : Program) (w : World) (K : PySem.W.Frag) (mg : Str → Option Value) (base : Heap) (k : Nat) (f : Addr) (fd : FuncData) (ps : List Str) (S : FS) : Prop where
  len : ∀ ds μ Φ, S ds μ Φ → ds.length = ps.length
  run : ∀ (A : Around) (outer : List Env) (s : Shared) (H : Hp) (args : Args) (us : List Value) (vs : List V) (Q : VK), Rm k A → Env0 P w K mg base A outer s H → BindsTo s fd args (ps.zip us) → Vals vs us → spD K S vs H Q E0 →
    codeAny (model P w) A (.call (.ref f) args) (CR CX0 outer P w H s Q E0) s
theorem spD_len {K : PySem.W.Frag} {S : FS} {n : Nat} (len : ∀ ds μ Φ, S ds μ Φ → ds.length = n) {vs : List V} {H : Hp} {Q : VK} {E : XK} (h : spD K S vs H Q E) : vs.length = n := by
  obtain ⟨_, _, ds, μ, Φ, _, r, q, _⟩ := h
  exact r.length.trans (len ds μ Φ q)
section
variable {X : Cy} {k : Nat} {f : Addr} {fd : FuncData} {ps : List Str} {S : FS}
theorem fnG_run {pins : List (Addr × Obj)} {σ : L2.St} {H : Hp} {s : Shared} {Q : VK} {us : List Value} {vs : List V} (F : FnG X.prog X.w X.K X.mg X.base k f fd ps S) (hr : Rm k X.A) (hb : Binds X.K fd ps []) (I : Inv X pins σ H s) (r : Vals vs us) (h : spD X.K S vs H Q E0) :
    wpAny (model X.prog X.w) X.A (call (.ref f) us) (EP X pins σ Q) X.xe s := by
  have n1 : (us ++ []).length = ps.length := by rw [List.append_nil, ← r.length]; exact spD_len F.len h
  have b1 := hb s us I.kIn n1
  rw [List.append_nil] at b1
  refine wpAny_call (codeAny_mono (F.run X.A X.stack s H ⟨us, []⟩ us vs Q hr I.env0 b1 r h) fun res s2 hq => ?_)
  rcases res with e | fl
  · exact False.elim hq
  · cases fl <;> first | exact I.after hq | exact False.elim hq
end
section
open PyProof.Rows
variable {P : Program} {w : World} {K : PySem.W.Frag} {mg : Str → Option Value} {base : Heap}
theorem fnG_ofC {x : Str} {st : Stmt} {f : Addr} {fd : FuncData} {N ps : List Str} {k : Nat} {S : FS} (F : Fun K x x st f fd) (Sc : FnScope N ps (defScope st)) (len : ∀ ds μ Φ, S ds μ Φ → ds.length = ps.length)
    (body : ∀ (cdv : Value), fd.code = cdv → ∀ (A : Around) (outer : List Env) (s : Shared) (H : Hp) (E : XK) (g : Hp), Rm k (A.deeper (envOfC x (defScope st) s.heap.objs.size f cdv)) → ∀ ds μ Φ, S ds μ Φ →
      wSs ⟨(cxOf CX0 P w K mg base N x (defScope st) f cdv A outer s H E).nox, g⟩ (defBody st) (rho N ds) μ { nx := fun _ μ' => Φ .non μ', rt := Φ }) : FnG P w K mg base (k + 1) f fd ps S := by
  obtain ⟨oc, od, kV, doc, pm, an, cdv, ct, osl, rfl, lk, hcd⟩ := F.ex
  refine ⟨len, fun A outer s H args us vs Q hr e0 hb r hsp => ?_⟩
  have hl := spD_len len hsp
  have kS : K.In s.heap := e0.mod.kin.keeps fun b o e => (e0.bs b o e).1
  have nl : s.heap.NoLimit := Heap.NoLimit.keeps e0.mod.nolimit fun b o e => (e0.bs b o e).1
  have kinds : ∀ y ∈ ps.zip us, (defScope st).names.lookup y.1 = some .local ∨ ((defScope st).names.lookup y.1 = some .cell ∧ ((cellsFrom (s.heap.objs.size + 1) (defScope st).names []).lookup y.1).isSome = true) := by
    rintro ⟨n, v⟩ hy
    exact (Sc.par n (List.of_mem_zip hy).1).imp id fun q => ⟨q, PySem.W.cellsFrom_some _ _ _ (.inl q)⟩
  refine codeAny_call_function hr.r.depth (kS _ _ lk) rfl Sc.co Sc.gen rfl (PySem.W.codeRec_of kS hcd) (hb _ _ _ _ (wpAny_newFunctionEnv_cells Sc.kind kinds fun env he s1 x1 => ?_))
  subst he
  refine ⟨nl.keeps x1.toInCall.keep, codeAny_func ?_⟩
  have I : Inv (cxOf CX0 P w K mg base N x (defScope st) f cdv A outer s H E0) [] (L2.start N vs) H s1 := inv_start Sc hr.r.hd e0 hl r x1
  obtain ⟨g, F', ds, μ, Φ, hs, rr, q, kt⟩ := hsp
  have B := body cdv rfl A outer s H E0 g (hr.in _) ds μ Φ q F' (L2.start N vs) H hs (sl_start rr) { nx := fun _ H' => Q .non H', rt := Q, bk := fun _ _ => False, ct := fun _ _ => False }
    ⟨fun F1 H1 σ1 ρ1 μ1 q e1 hs1 sl1 => kt .non F1 H1 .non μ1 q e1 hs1 .non, kt, fun F1 H1 σ1 ρ1 μ1 q => False.elim q, fun F1 H1 σ1 ρ1 μ1 q => False.elim q⟩
  have B2 := (PSs.nox (X := cxOf CX0 P w K mg base N x (defScope st) f cdv A outer s H E0) (pss_s (X := ⟨(cxOf CX0 P w K mg base N x (defScope st) f cdv A outer s H E0).nox, g⟩))).run [] s1 (L2.start N vs) H _ I B
  refine wpAny_mono B2 (fun fl s' z => ?_) fun e s' z => z
  have fin : ∀ {σ' : L2.St} {H' : Hp} {v : V} {u : Value}, Inv (cxOf CX0 P w K mg base N x (defScope st) f cdv A outer s H E0) [] σ' H' s' → RelV v u → Q v H' → CE outer P w H s Q u s' := fun {_ H' v _} J rv q => ⟨v, H', J.os, J.bare, J.base, J.hok, rv, q⟩
  cases fl with
  | next => obtain ⟨_, _, J, q⟩ := z; exact fin (v := .non) (u := .none) J rfl q
  | ret u => obtain ⟨_, _, _, J, rv, q⟩ := z; exact fin J rv q
  | brk => obtain ⟨_, _, _, q⟩ := z; exact q.elim
  | cont => obtain ⟨_, _, _, q⟩ := z; exact q.elim
theorem fnG_of {x : Str} {st : Stmt} {f : Addr} {fd : FuncData} {N ps : List Str} {k : Nat} {S : FS} (F : Fun K x x st f fd) (Sc : FnScope N ps (defScope st)) (len : ∀ ds μ Φ, S ds μ Φ → ds.length = ps.length)
    (body : ∀ (cdv : Value) (A : Around) (outer : List Env) (s : Shared) (H : Hp) (E : XK) (g : Hp), Rm k (A.deeper (envOfC x (defScope st) s.heap.objs.size f cdv)) → ∀ ds μ Φ, S ds μ Φ →
      wSs ⟨(cxOf CX0 P w K mg base N x (defScope st) f cdv A outer s H E).nox, g⟩ (defBody st) (rho N ds) μ { nx := fun _ μ' => Φ .non μ', rt := Φ }) : FnG P w K mg base (k + 1) f fd ps S :=
  fnG_ofC F Sc len fun cdv _ => body cdv
/-- a def whose promise is shown -/
structure KnG (P : Program) (w : World) (K : PySem.W.Frag) (mg : Str → Option Value) (base : Heap) (k : Nat) (x : Str) (ps : List Str) (S : FS) : Prop where
  ex : ∃ f fd, mg x = some (.ref f) ∧ PySem.W.keepIn K (.ref f) = true ∧ Binds K fd ps [] ∧ FnG P w K mg base k f fd ps S
theorem kn_ofG {x : Str} {st : Stmt} {N ps : List Str} {k : Nat} {S : FS} (B : Src K mg x st ps) (Sc : FnScope N ps (defScope st)) (len : ∀ ds μ Φ, S ds μ Φ → ds.length = ps.length)
    (body : ∀ (f : Addr) (cdv : Value) (A : Around) (outer : List Env) (s : Shared) (H : Hp) (E : XK) (g : Hp), Rm k (A.deeper (envOfC x (defScope st) s.heap.objs.size f cdv)) → ∀ ds μ Φ, S ds μ Φ →
      wSs ⟨(cxOf CX0 P w K mg base N x (defScope st) f cdv A outer s H E).nox, g⟩ (defBody st) (rho N ds) μ { nx := fun _ μ' => Φ .non μ', rt := Φ }) : KnG P w K mg base (k + 1) x ps S := by
  obtain ⟨f, fd, F, hm, hb⟩ := B.ex
  exact ⟨f, fd, hm, F.kp, hb, fnG_of F Sc len (body f)⟩
end
section
variable {X : Cy} {e : Expr} {es : List Expr} {ρ : Rho} {μ : Mu} {Φ : D → Mu → Prop} {pos p : Pos}
theorem w_callG {x : Str} {k k0 : Nat} {ps : List Str} {S : FS} (G : KnG X.prog X.w X.K X.mg X.base k x ps S) (hr : Rm k0 X.A) (h : wA X (e :: es) ρ μ fun ds μ1 => S ds μ1 Φ) (hk : k ≤ k0 := by decide) (hg : Gl X x := by rfl) (hdb : (x == ("__debug__" : Str)) = false := by decide)
    (he : starEach (e :: es) X.env = (false, eval e X.env) :: starEach es X.env := by rfl) (hpl : (backTo pos (starEach es X.env)).any (·.1) = false := by rfl) : wE X (.Call (.Name x p) (e :: es) [] pos) ρ μ Φ := by
  obtain ⟨f, fd, hm, kp, hb, G⟩ := G.ex
  have P1 : PE X (.Call (.Name x p) (e :: es) [] pos) fun σ H Q => sA X (e :: es) σ H fun vs H1 => spD X.K S vs H1 Q E0 := ⟨fun pins s σ H Q I h => wpAny_Call_Name_kw (ld_glob I hg hm
    (PySem.W.callWith_K (h₀ := X.base) I.ok.mod.kin kp (thn (pa_s.run pos pins s σ H _ I h) fun us s1 ⟨vs, H1, I1, r, q⟩ => ⟨I1.kIn, fnG_run G (hr.le hk) hb I1 r q⟩) he hpl) hdb)⟩
  exact fun F σ H hs sl Q kt => se_of P1 (h F σ H hs sl _ fun xs F1 H1 ds μ1 q e1 hs1 r1 => ⟨X.g, F1, ds, μ1, Φ, hs1, r1, q, kt.mono e1⟩)
/-! repr -/
mutual
/-- the data behind a value: cells as they are now -/
inductive Shw (μ : Mu) : D → PyData → Prop
  | non : Shw μ .non .none
  | bl (b : Bool) : Shw μ (.bl b) (.bool b)
  | int (i : Int) : Shw μ (.int i) (.int i)
  | str (x : Str) : Shw μ (.str x) (.str x)
  | tup {ds : List D} {ys : List PyData} : Shws μ ds ys → Shw μ (.tup ds) (.tuple ys)
  | tpl {ds : List D} {ys : List PyData} : Shws μ ds ys → Shw μ (.tpl ds) (.tuple ys)
  | lst {ds : List D} {ys : List PyData} : Shws μ ds ys → Shw μ (.lst ds) (.list ys)
  | scr {ds : List D} {ys : List PyData} : Shws μ ds ys → Shw μ (.scr ds) (.list ys)
  | ptr {q : Addr} {i : Nat} {ds : List D} {ys : List PyData} : μ[i]? = some (q, .lst ds) → Shws μ ds ys → Shw μ (.ptr q) (.list ys)
inductive Shws (μ : Mu) : List D → List PyData → Prop
  | nil : Shws μ [] []
  | cons {d : D} {ds : List D} {y : PyData} {ys : List PyData} : Shw μ d y → Shws μ ds ys → Shws μ (d :: ds) (y :: ys)
end
mutual
theorem Shw.of_still (μ : Mu) : ∀ {d : D}, D.still d = true → Shw μ d d.py
  | .non, _ => .non
  | .bl b, _ => .bl b
  | .int i, _ => .int i
  | .str x, _ => .str x
  | .tup l, h => .tup (Shws.of_still μ (by simpa [D.still] using h))
  | .tpl l, h => .tpl (Shws.of_still μ (by simpa [D.still] using h))
  | .lst l, h => .lst (Shws.of_still μ (by simpa [D.still] using h))
  | .scr l, h => .scr (Shws.of_still μ (by simpa [D.still] using h))
  | .ptr a, h => absurd h (by simp [D.still])
  | .ty a, h => absurd h (by simp [D.still])
  | .dct _ _, h => absurd h (by simp [D.still])
theorem Shws.of_still (μ : Mu) : ∀ {d : List D}, D.stills d = true → Shws μ d (D.pys d)
  | [], _ => .nil
  | d :: ds, h => by
    rw [D.stills, Bool.and_eq_true] at h
    exact .cons (Shw.of_still μ h.1) (Shws.of_still μ h.2)
end
theorem Hs.cellAt {K : KF} {F : Hp} {μ : Mu} {H : Hp} (hs : Hs K F μ H) {i : Nat} {q : Addr} {ds : List D} (h : μ[i]? = some (q, .lst ds)) : ∃ xs, H q = some (.lst xs) ∧ Reps K F xs ds := hs.lst h
mutual
theorem shw_dp {K : KF} {F : Hp} {μ : Mu} {H : Hp} (hs : Hs K F μ H) : ∀ {d : D} {y : PyData} {v : V}, Shw μ d y → Rep K F v d → Dp K H v y
  | _, _, _, .non, .non => .non
  | _, _, _, .bl b, .bl _ => .bl b
  | _, _, _, .int i, .int _ => .int i
  | _, _, _, .str x, .str _ => .str x
  | _, _, _, .tup h, .tup g r => .tup ((Evl.st_of (hs.ex _ _ g))) (shws_dp hs h r)
  | _, _, _, .tpl h, .tpl g _ _ r => .tup (.inl (.inr ⟨_, hs.ex _ _ g⟩)) (shws_dp hs h r)
  | _, _, _, .lst h, .lst g r => .lst (Evl.sq_of (hs.ex _ _ g)) (shws_dp hs h r)
  | _, _, _, .scr h, .scr g r => .lst (Evl.ex_l hs.ex g) (shws_dp hs h r)
  | _, _, _, .ptr hi h, .ptr _ => by
    obtain ⟨xs, g, r⟩ := hs.cellAt hi
    exact .lst (Evl.sq_of g) (shws_dp hs h r)
theorem shws_dp {K : KF} {F : Hp} {μ : Mu} {H : Hp} (hs : Hs K F μ H) : ∀ {d : List D} {y : List PyData} {v : List V}, Shws μ d y → Reps K F v d → DpAll K H v y
  | _, _, _, .nil, .nil => .nil
  | _, _, _, .cons h hh, .cons r rr => .cons (shw_dp hs h r) (shws_dp hs hh rr)
end
/-- repr(d) -/
theorem c_repr {d : D} (y : PyData) {k0 : Nat} (hr : Rm k0 X.A) (hd : Shw μ d y) (hnd : y.hasDict = false) (hsh : y.showable = true) (hz : y.shown.length ≤ sizeLine) (hdep : y.depth ≤ 60) (k : Φ (.str y.shown) μ) : wCl X (.builtin "repr") [d] μ Φ := by
  intro F H xs hs r1 Q kt pins s σ us I rv
  cases r1 with
  | cons r rr =>
  cases rr
  have dp := shw_dp hs hd r
  have hu := hr.units
  have q0 := kt.now k hs (.str y.shown)
  obtain ⟨u, rfl, r2⟩ := vals1 rv
  obtain ⟨as, rd⟩ := Dp.reads I y _ u dp r2
  cases rd with
  | none => exact PySem.P.repr_of_none ⟨.str _, H, I.tok _, ⟨_, rfl⟩, by simpa only [PyData.shown] using q0⟩
  | bool b => exact PySem.P.repr_of_bool ⟨.str _, H, I.tok _, ⟨_, rfl⟩, by simpa only [PyData.shown] using q0⟩
  | int i t => exact PySem.P.repr_of_int (by simpa [PyData.showable] using hsh) ⟨.str _, H, I.tok _, ⟨_, rfl⟩, by simpa only [PyData.shown] using q0⟩
  | str x t => exact PySem.P.repr_of_str ⟨.str _, H, I.tok _, ⟨_, rfl⟩, by simpa only [PyData.shown] using q0⟩ (by simpa only [PyData.shown] using hz)
  | list h1 h2 h3 h4 => exact repr_of_reads' (.list h1 h2 h3 h4) hsh (PyData.noDict_hsm hnd) hr.g (by omega) (fun _ _ e => e) (fun h' u tk hk => ⟨.str _, H, I.kept hk, ⟨_, rfl⟩, q0⟩) hz
  | tuple h1 h2 h3 h4 => exact repr_of_reads' (.tuple h1 h2 h3 h4) hsh (PyData.noDict_hsm hnd) hr.g (by omega) (fun _ _ e => e) (fun h' u tk hk => ⟨.str _, H, I.kept hk, ⟨_, rfl⟩, q0⟩) hz
  | dict h1 h2 h3 h4 h5 => simp [PyData.hasDict] at hnd
end
/-! the law's end -/
open PyProof.Rows in
theorem law_callG {P : Program} {w : World} {K : PySem.W.Frag} {mg mb : Str → Option Value} {k : Nat} {fa a : Addr} {fd : FuncData} {x : Str} {t : Shared} {vs : List Value} {ns : List Int}
    (kT : K.In t.heap) (hns : t.heap.Ns mainGlobals mg) (hb : t.heap.Ns builtinsNs mb) (hbb : ∀ y : Str, y ≠ "__name__" → mb y = bootBuiltins y) (nl : t.heap.NoLimit) (hg : t.gens = #[]) (ha : t.heap.get? a = some { cls := .type "list", data := .seq vs.toArray }) (hi : IntsAre vs ns)
    (hl : ns.length ≤ 63) (hr : Rm k callerA) (F : ∀ base : Heap, K.In base → base.Ns mainGlobals mg → FnG P w K mg base k fa fd [x] S_law) (bind : ∀ (s : Shared) (u : Value), BindsTo s fd ⟨[u], []⟩ [(x, u)]) :
    codeAny (model P w) callerA (.call (.ref fa) ⟨[.ref a], []⟩) (fun r s' => r = .ok (.ret (.bool true)) ∧ OldK t.heap s'.heap ∧ s'.os = t.os ∧ AllBare s'.gens) t := by
  have vals := vals_ints hi
  have lenV := hi.length
  have hz : ns.length ≤ sizeLine := Nat.le_trans hl (by decide)
  suffices goal : ∀ H : Hp, Only H → SqL K H a (ns.map V.int) → HOk P w H t.heap → (∀ b, H b ≠ none → b = a) → (H a ≠ none → K.lookup a = none) → codeAny (model P w) callerA (.call (.ref fa) ⟨[.ref a], []⟩) (fun r s' => r = .ok (.ret (.bool true)) ∧ OldK t.heap s'.heap ∧ s'.os = t.os ∧ AllBare s'.gens) t by
    rcases hk : K.lookup a with _ | ob
    · let H1 : Hp := fun b => if b = a then some (.frz { cls := .type "list", data := .seq vs.toArray } (.lst (ns.map V.int))) else none
      have at1 : H1 a = some (.frz { cls := .type "list", data := .seq vs.toArray } (.lst (ns.map V.int))) := if_pos rfl
      have off : ∀ b, b ≠ a → H1 b = none := fun b z => if_neg z
      refine goal H1 (fun b => ?_) (.inl (.inr ⟨_, at1⟩)) (fun b u z => ?_) (fun b z => Classical.byContradiction fun hb => z (off b hb)) fun _ => hk
      · rcases Classical.em (b = a) with rfl | hb
        · exact .inr ⟨_, _, at1⟩
        · exact .inl (off b hb)
      · rcases Classical.em (b = a) with rfl | hb
        · rw [at1] at z
          cases z
          exact ⟨ha, by rw [List.length_map]; exact hz, vs, _, vals, ha⟩
        · rw [off b hb] at z
          cases z
    · have e := kT a ob hk
      rw [ha] at e
      cases e
      exact goal (fun _ => none) (fun _ => .inl rfl) (.inr ⟨_, vs.toArray, _, hk, rfl, rfl, rfl, by rw [List.size_toArray, lenV]; exact hz, by simpa using vals⟩) (fun b u z => nomatch z) (fun b z => absurd rfl z) fun z => absurd rfl z
  intro H onl sq hok one apart
  have out : ∀ {b : Addr} {o : Obj}, t.heap.get? b = some o → H b = none → (hidT t.heap H).get? b = some o := fun e n => hidT_get e n
  have isA : ∀ {b : Addr}, ¬ H b = none → b = a := fun {b} z => one b z
  have dicts : ∀ {b : Addr} {o : Obj} {es : Array DictEntry} {ep : Nat}, t.heap.get? b = some o → o.data = .dict es ep → H b = none := fun {b o es ep} e d => Classical.byContradiction fun z => by
    rw [isA z, ha] at e
    cases e
    exact absurd (show Data.seq vs.toArray _ = Data.dict es ep from d) nofun
  have nsH : ∀ {b : Addr} {m : Str → Option Value}, t.heap.Ns b m → (hidT t.heap H).Ns b m := fun {b m} ⟨o, es, ep, e, d, r⟩ => ⟨o, es, ep, out e (dicts e d), d, r⟩
  have kH : K.In (hidT t.heap H) := fun b o e => out (kT b o e) (Classical.byContradiction fun z => by
    have eb := isA z
    rw [eb] at z e
    rw [apart z] at e
    cases e)
  have md : Mod K mg (hidT t.heap H) := ⟨kH, nsH hns, ⟨mb, nsH hb, hbb⟩, let ⟨mc, h1, h2⟩ := nl; ⟨mc, nsH h1, h2⟩⟩
  have e0 : Env0 P w K mg (hidT t.heap H) callerA [] t H := ⟨rfl, md, fun b o e => of_hidT e, Nat.le_of_eq (hidT_size _ _), trivial, fun b hb => (nomatch hb), hok, AllBare.of_eq hg⟩
  refine codeAny_mono ((F _ kH (nsH hns)).run callerA [] t H ⟨[.ref a], []⟩ [.ref a] [.ref a] (fun v _ => v = .bl true) hr e0 (bind t (.ref a)) (.cons rfl .nil) (law_end sq hl fun _ => rfl)) fun r s' h => ?_
  rcases r with e | fl
  · exact h.elim
  · cases fl with
    | ret u =>
      obtain ⟨v, H', os, bare, un, hok', r', q⟩ := h
      obtain rfl : v = .bl true := q
      obtain rfl : u = Value.bool true := r'
      refine ⟨rfl, OldK.of_keep fun b o e => ?_, os, bare⟩
      rcases onl b with z | ⟨ob, xs, z⟩
      · exact un.keep b o e z (fun z => nomatch z) (fun z => nomatch z)
      · have g1 := (hok b _ z).1
        rw [e] at g1
        cases g1
        exact (hok' b _ (un.frzs b _ _ z)).1
    | next => exact h.elim
    | brk => exact h.elim
    | cont => exact h.elim
theorem walk_ofG {l : PySem.W.OpenLaw} {k : Nat} {q : Program} {loose : List Str} {XP : (Str → Option Value) → Heap → Prop} {YP : World → Heap → Prop} {d : DefRec} {K : Params → PySem.W.Frag} {x : Str} (hn : l.most = some 63) (hdf : d.params.defaults = []) (hr : Room k callerA)
    (hY : ∀ (w : World) (h : Heap), YP w h → (K w.params).In h)
    (F : ∀ (w : World) (mg : Str → Option Value) (fa : Addr) (h : Heap), (K w.params).In h → h.Ns mainGlobals mg → mg d.name = some (.ref fa) →
      ∃ fd : FuncData, (∀ (s : Shared) (u : Value), BindsTo s fd ⟨[u], []⟩ [(x, u)]) ∧ ∀ base : Heap, (K w.params).In base → base.Ns mainGlobals mg → FnG l.prog w (K w.params) mg base k fa fd [x] S_law) :
    PySem.W.WalkO q loose XP YP l.row.toRowW d [] (fun f vs => PySem.call f vs) := by
  refine Att.attach_call hn hdf fun w s₀ t mg mb fa o pm cd doc a vs ns G Y ho hd hcd hmg hobj hints hlen hg => ?_
  obtain ⟨fd, hb, hF⟩ := F w mg fa _ (hY w _ Y) G.T.g hmg
  exact law_callG (hY w _ Y) G.T.g G.T.b G.T.builtins G.T.nolimit hg hobj hints hlen ⟨hr, rfl⟩ hF hb
end Oc

/-! Own layer: slices, a store into a list, sorted. -/
namespace Oc
open PySem PySem.Spec L2
open Evl (Ex)
section
variable {X : Cy} {e o i : Expr} {lo hi : Option Expr} {es : List Expr} {ρ : Rho} {μ : Mu} {Φ : D → Mu → Prop} {E : En} {pos p p2 : Pos}
/-- a slice's part -/
def wO (X : Cy) (o : Option Expr) (ρ : Rho) (μ : Mu) (Φ : Option Int → Mu → Prop) : Prop := match o with
  | none => Φ none μ
  | some e => wE X e ρ μ fun d μ1 => ∃ i, d = .int i ∧ Φ (some i) μ1
def tO (X : Cy) (o : Option Expr) : TO := match o with
  | none => tNoPart
  | some e => tPart (sE X e)
theorem po_s {o : Option Expr} : PO X o (tO X o) := match o with
  | none => po_none
  | some e => po_some pe_s
theorem wO_go {o : Option Expr} {Ψ : Option Int → Mu → Prop} (h : wO X o ρ μ Ψ) {F H : Hp} {σ : L2.St} (hs : Hs X.K F μ H) (sl : Sl X.K F ρ σ) {Q : Option Int → Hp → Prop} (q : ∀ i F' H' μ', Ψ i μ' → Ex F F' → Hs X.K F' μ' H' → Q i H') : tO X o σ H Q := by
  cases o with
  | none => exact q _ F H μ h (Ex.refl F) hs
  | some e =>
    refine h F σ H hs sl _ ?_
    rintro v F1 H1 d μ1 ⟨i, rfl, z⟩ e1 hs1 r1
    cases r1
    exact ⟨i, rfl, q _ F1 H1 μ1 z e1 hs1⟩
/-- the items of xs[lo:hi] -/
def cutD (xs : List D) (lo hi : Option Int) : List D := (xs.drop (HT.sIx xs.length 0 lo)).take (HT.sIx xs.length xs.length hi - HT.sIx xs.length 0 lo)
theorem cut_reps {K : PySem.W.Frag} {F : Hp} {v : List V} {d : List D} (r : Reps K F v d) (a b : Option Int) : Reps K F (cutV v a b) (cutD d a b) := by
  unfold cutV cutD
  rw [r.length]
  exact (r.drop _).take _
theorem cutD_to (xs : List D) (n : Nat) : cutD xs none (some (n : Int)) = xs.take n := by
  unfold cutD
  rw [HT.sIx_nat, HT.sIx_none, List.drop_zero, Nat.sub_zero]
  rcases Nat.le_total n xs.length with h | h
  · rw [Nat.min_eq_left h]
  · rw [Nat.min_eq_right h, List.take_of_length_le (Nat.le_refl _), List.take_of_length_le h]
theorem cutD_from (xs : List D) (n : Nat) : cutD xs (some (n : Int)) none = xs.drop n := by
  unfold cutD
  rw [HT.sIx_nat, HT.sIx_none]
  rcases Nat.le_total n xs.length with h | h
  · rw [Nat.min_eq_left h, List.take_of_length_le (by rw [List.length_drop]; exact Nat.le_refl _)]
  · rw [Nat.min_eq_right h, List.drop_of_length_le (Nat.le_refl _), List.drop_of_length_le h, List.take_nil]
theorem cutD_fromTo (xs : List D) (m n : Nat) (hm : m ≤ xs.length) (hn : n ≤ xs.length) : cutD xs (some (m : Int)) (some (n : Int)) = (xs.drop m).take (n - m) := by
  unfold cutD
  rw [HT.sIx_nat, HT.sIx_nat, Nat.min_eq_left hm, Nat.min_eq_left hn]
theorem wo_none {Ψ : Option Int → Mu → Prop} (h : Ψ none μ) : wO X none ρ μ Ψ := h
theorem wo_some {Ψ : Option Int → Mu → Prop} (h : wE X e ρ μ fun d μ1 => ∃ i, d = .int i ∧ Ψ (some i) μ1) : wO X (some e) ρ μ Ψ := h
/-- what a slice is of -/
def slD (d : D) (a b : Option Int) (μ : Mu) (Φ : D → Mu → Prop) : Prop := match d with
  | .tup ds => Φ (.tup (cutD ds a b)) μ
  | .tpl ds => Φ (.tup (cutD ds a b)) μ ∧ (cutD ds a b = ds → Φ (.tpl ds) μ)
  | .lst ds => Φ (.lst (cutD ds a b)) μ
  | .scr ds => Φ (.lst (cutD ds a b)) μ
  | .str x => x.length ≤ 16777216 ∧ Φ (.str (cutS x a b)) μ
  | .ptr q => ∃ (m : Nat) (ds : List D), μ[m]? = some (q, MO.lst ds) ∧ ∀ p, Φ (.ptr p) ((p, .lst (cutD ds a b)) :: μ)
  | _ => False
theorem sd_tup {ds : List D} {a b : Option Int} (k : Φ (.tup (cutD ds a b)) μ) : slD (.tup ds) a b μ Φ := k
theorem sd_tpl {ds : List D} {a b : Option Int} (hn : cutD ds a b ≠ ds) (k : Φ (.tup (cutD ds a b)) μ) : slD (.tpl ds) a b μ Φ := ⟨k, fun h => absurd h hn⟩
theorem sd_lst {ds : List D} {a b : Option Int} (k : Φ (.lst (cutD ds a b)) μ) : slD (.lst ds) a b μ Φ := k
theorem sd_str {x : Str} {a b : Option Int} (hz : x.length ≤ 16777216) (k : Φ (.str (cutS x a b)) μ) : slD (.str x) a b μ Φ := ⟨hz, k⟩
theorem sd_ptr {q : Addr} {ds : List D} {a b : Option Int} (m : Nat) (hm : μ[m]? = some (q, MO.lst ds)) (k : ∀ p, Φ (.ptr p) ((p, .lst (cutD ds a b)) :: μ)) : slD (.ptr q) a b μ Φ := ⟨m, ds, hm, k⟩
/-- an item of a written list of ints -/
theorem ix_lit (l : List Int) {r : Int} (h0 : 0 ≤ r) (h1 : r < l.length) (k : ∀ x, x ∈ l → Φ (.int x) μ) : wIx X (.lst (l.map D.int)) (.int r) μ Φ := by
  have h2 : r.toNat < l.length := by omega
  exact ix_lstD r.toNat (by omega) (by rw [List.getElem?_map, List.getElem?_eq_getElem h2]; rfl) (k _ (List.getElem_mem h2))
theorem ix_litT (l : List Int) {r : Int} (h0 : 0 ≤ r) (h1 : r < l.length) (k : ∀ x, x ∈ l → Φ (.int x) μ) : wIx X (.tup (l.map D.int)) (.int r) μ Φ := by
  have h2 : r.toNat < l.length := by omega
  exact ix_tupD r.toNat (by omega) (by rw [List.getElem?_map, List.getElem?_eq_getElem h2]; rfl) (k _ (List.getElem_mem h2))
theorem cut_whole {K : PySem.W.Frag} {F : Hp} {v : List V} {d : List D} (r : Reps K F v d) {a b : Option Int} (h : HT.sIx v.length 0 a = 0 ∧ HT.sIx v.length v.length b = v.length) : cutD d a b = d := by
  unfold cutD
  rw [← r.length, h.1, h.2, List.drop_zero, Nat.sub_zero, r.length, List.take_of_length_le (Nat.le_refl _)]
theorem w_sl (h : wE X e ρ μ fun d μ1 => wO X lo ρ μ1 fun a μ2 => wO X hi ρ μ2 fun b μ3 => slD d a b μ3 Φ) : wE X (.Subscript e (.Slice lo hi none p2) pos) ρ μ Φ := fun F σ H hs sl Q kt =>
  se_of (pe_slice (sl_tupA.or (sl_list.or sl_str)) pe_s po_s po_s) (h F σ H hs sl _ fun v F1 H1 d μ1 z1 e1 hs1 r1 => wO_go z1 hs1 (sl.mono e1) fun a F2 H2 μ2 z2 e2 hs2 => wO_go z2 hs2 (sl.mono (e1.trans e2)) fun b F3 H3 μ3 z3 e3 hs3 => by
    have r3 := r1.mono (e2.trans e3)
    have kt3 := kt.mono (e1.trans (e2.trans e3))
    cases r3 with
    | tup g r => exact .inl ⟨_, _, rfl, (Evl.st_of (hs3.ex _ _ g)), fun hw => by rw [slD, cut_whole r hw] at z3; exact kt3.now z3 hs3 (.tup g r), fun _ q hq => by
        obtain ⟨g1, g2⟩ := hs3.laid (u := .tup (cutV _ a b)) hq
        exact kt3 _ _ _ _ _ z3 g2 g1 (.tup upd_same ((cut_reps r a b).mono g2))⟩
    | tpl g hc hd r => exact .inl ⟨_, _, rfl, .inl (.inr ⟨_, hs3.ex _ _ g⟩), fun hw => kt3.now (z3.2 (cut_whole r hw)) hs3 (.tpl g hc hd r), fun _ q hq => by
        obtain ⟨g1, g2⟩ := hs3.laid (u := .tup (cutV _ a b)) hq
        exact kt3 _ _ _ _ _ z3.1 g2 g1 (.tup upd_same ((cut_reps r a b).mono g2))⟩
    | lst g r => exact .inr (.inl ⟨_, _, rfl, Evl.sq_of (hs3.ex _ _ g), fun q hq => by
        obtain ⟨g1, g2⟩ := hs3.laid (u := .lst (cutV _ a b)) hq
        exact kt3 _ _ _ _ _ z3 g2 g1 (.lst upd_same ((cut_reps r a b).mono g2))⟩)
    | scr g r => exact .inr (.inl ⟨_, _, rfl, Evl.ex_l hs3.ex g, fun q hq => by
        obtain ⟨g1, g2⟩ := hs3.laid (u := .lst (cutV _ a b)) hq
        exact kt3 _ _ _ _ _ z3 g2 g1 (.lst upd_same ((cut_reps r a b).mono g2))⟩)
    | str x => exact .inr (.inr ⟨x, rfl, z3.1, kt3.now z3.2 hs3 (.str _)⟩)
    | ptr q =>
      obtain ⟨m, ds, hm, z⟩ := z3
      obtain ⟨xs, g, r⟩ := hs3.lst hm
      exact .inr (.inl ⟨_, xs, rfl, Evl.sq_of g, fun q hq => kt3 _ _ _ _ _ (z q) (Ex.refl _) (hs3.cell hq (.lst (cut_reps r a b))) (.ptr q)⟩)
    | _ => exact False.elim z3)
/-- xs[i] = v -/
theorem w_lset (h : wE X e ρ μ fun d μ0 => wE X o ρ μ0 fun d1 μ1 => wE X i ρ μ1 fun d2 μ2 => ∃ (q : Addr) (m : Nat) (ds : List D) (n : Nat), d1 = .ptr q ∧ d2 = .int n ∧ μ2[m]? = some (q, MO.lst ds) ∧ n < ds.length ∧ E.nx ρ (μ2.set m (q, .lst (ds.set n d))))
    (hs : swapsWithSole [.Subscript o i p] e pos.line X.env = pure false := by rfl) (hw : swappedStores [.Subscript o i p] e X.env = pure none := by rfl)
    (ha : ∀ v, assign (.Subscript o i p) X.env v = (do let ov ← holding [v] (eval o X.env); let iv ← holding [v, ov] (eval i X.env); standAt p; holding [v, ov, iv] (setItem ov iv v); release [v, ov, iv] []) := by intro _; rfl)
    (h1 : (assignEach [.Subscript o i p] X.env).map (·.2) = [assign (.Subscript o i p) X.env] := by rfl) : wS X (.Assign [.Subscript o i p] e pos) ρ μ E := fun F σ H hh sl D kt =>
  ss_of (ps_asg pe_s (pg_sub pe_s pe_s set_list ha) hs hw h1) (h F σ H hh sl _ fun v F0 H0 d μ0 z0 e0 hs0 r0 => binW (R := fun x y H2 => rSetL x y v H2 fun H3 => D.nx σ H3) z0 hs0 (sl.mono e0) fun x y F2 H2 d1 d2 μ2 ⟨q, m, ds, n, g1, g2, hm, hn, z⟩ e2 hs2 r1 r2 => by
    subst g1
    subst g2
    cases r1
    cases r2
    obtain ⟨xs, g, rx⟩ := hs2.lst hm
    have hn' : n < xs.length := by rw [rx.length]; exact hn
    refine ⟨q, xs, n, n, rfl, rfl, g, ?_, kt.nx F2 _ σ ρ _ z (e0.trans e2) (hs2.write hm (.lst (Reps.set (r0.mono e2) n rx))) (sl.mono (e0.trans e2))⟩
    unfold ixN
    rw [if_pos (by omega), if_pos (by omega), Int.toNat_natCast])
/-- sorted(xs) of ints -/
theorem c_sortedI {ns : List Int} {d : D} (hd : d = .lst (ns.map D.int) ∨ d = .scr (ns.map D.int) ∨ ∃ (m : Nat) (q : Addr), d = .ptr q ∧ μ[m]? = some (q, MO.lst (ns.map D.int))) (k : ∀ ns' : List Int, ns'.Perm ns → ns'.Pairwise (· ≤ ·) → Φ (.lst (ns'.map D.int)) μ) : wCl X (.builtin "sorted") [d] μ Φ :=
  wcl_of cr_sortedI fun F H xs hs r1 Q kt => by
  cases r1 with
  | cons r rr =>
  cases rr
  have fin : ∀ a, SqL X.K H a (ns.map V.int) → rSortedI X.K [.ref a] H Q := fun a g => ⟨a, ns, rfl, g, fun ns' q h1 h2 hq => by
    obtain ⟨g1, g2⟩ := hs.laid (u := .lst (ns'.map V.int)) hq
    exact kt _ _ _ _ _ (k ns' h1 h2) g2 g1 (.lst upd_same (reps_map (fun n => .int n) ns'))⟩
  rcases hd with hd | hd | ⟨m, q, hd, hm⟩
  · subst hd
    cases r with
    | lst g r => exact fin _ (by rw [← reps_ints r]; exact Evl.sq_of (hs.ex _ _ g))
  · subst hd
    cases r with
    | scr g r => exact fin _ (by rw [← reps_ints r]; exact Evl.ex_l hs.ex g)
  · subst hd
    cases r
    obtain ⟨xs, g, r⟩ := hs.lst hm
    exact fin _ (by rw [← reps_ints r]; exact Evl.sq_of g)
end
end Oc

/-! Own layer: small data (repr fits), tuple times a number. -/
namespace Oc
open PySem PySem.Spec L2
open Evl (Ex)
/-! ### small data -/
structure Tm (y : PyData) (b d : Nat) : Prop where
  nd : y.hasDict = false
  sh : y.showable = true
  lv : y.leavesShort 13 = true
  bk : y.bulk ≤ b
  dp : y.depth ≤ d
structure Tms (ys : List PyData) (b d : Nat) : Prop where
  nd : PyData.hasDictAll ys = false
  sh : PyData.showableAll ys = true
  lv : PyData.leavesShortAll 13 ys = true
  bk : PyData.bulkAll ys ≤ b
  dp : PyData.depthAll ys ≤ d
theorem Tm.mono {y : PyData} {b d b' d' : Nat} (h : Tm y b d) (hb : b ≤ b') (hd : d ≤ d') : Tm y b' d' := ⟨h.nd, h.sh, h.lv, Nat.le_trans h.bk hb, Nat.le_trans h.dp hd⟩
theorem Tms.mono {y : List PyData} {b d b' d' : Nat} (h : Tms y b d) (hb : b ≤ b') (hd : d ≤ d') : Tms y b' d' := ⟨h.nd, h.sh, h.lv, Nat.le_trans h.bk hb, Nat.le_trans h.dp hd⟩
theorem Tm.non : Tm .none 0 0 := ⟨rfl, rfl, rfl, Nat.le_refl _, Nat.le_refl _⟩
theorem Tm.bl (b : Bool) : Tm (.bool b) 0 0 := ⟨rfl, rfl, rfl, Nat.le_refl _, Nat.le_refl _⟩
theorem log_small {i : Int} (h : -999999999999 ≤ i ∧ i ≤ 999999999999) : i.natAbs.log2 < 1920 := by
  by_cases h0 : i.natAbs = 0
  · rw [h0]; decide
  · exact Nat.lt_of_lt_of_le ((Nat.log2_lt h0).mpr (show i.natAbs < 2 ^ 40 by omega)) (by decide)
theorem Tm.int {i : Int} (h : -999999999999 ≤ i ∧ i ≤ 999999999999) : Tm (.int i) 0 0 :=
  ⟨rfl, by simp only [PyData.showable, decide_eq_true_eq]; exact log_small h, by simp only [PyData.leavesShort, decide_eq_true_eq]; exact PySem.PyData.shown_int_le2 h.1 h.2, Nat.le_refl _, Nat.le_refl _⟩
theorem Tm.str {x : Str} (n : Nat) (h : x.cps.size ≤ n) (hc : ∀ c ∈ x.cps.toList, c < 16 ^ 8) : Tm (.str x) n 0 :=
  ⟨rfl, rfl, by simp only [PyData.leavesShort, List.all_eq_true, decide_eq_true_eq]; exact hc, by simp only [PyData.bulk]; exact h, Nat.le_refl _⟩
theorem Tms.nil : Tms [] 0 0 := ⟨rfl, rfl, rfl, Nat.le_refl _, Nat.le_refl _⟩
theorem Tms.cons {y : PyData} {ys : List PyData} {b c d e : Nat} (h : Tm y b d) (t : Tms ys c e) : Tms (y :: ys) (b + 1 + c) (max d e) :=
  ⟨by simp only [PyData.hasDictAll, h.nd, t.nd, Bool.or_self], by simp only [PyData.showableAll, h.sh, t.sh, Bool.and_self], by simp only [PyData.leavesShortAll, h.lv, t.lv, Bool.and_self],
    by simp only [PyData.bulkAll]; have := h.bk; have := t.bk; omega, by simp only [PyData.depthAll]; have := h.dp; have := t.dp; omega⟩
theorem Tms.all {b d : Nat} : ∀ {ys : List PyData}, (∀ y ∈ ys, Tm y b d) → Tms ys ((b + 1) * ys.length) d
  | [], _ => Tms.nil.mono (Nat.le_refl _) (Nat.zero_le _)
  | y :: ys, h => by
    refine (Tms.cons (h y List.mem_cons_self) (Tms.all fun z hz => h z (List.mem_cons_of_mem _ hz))).mono ?_ (by omega)
    rw [List.length_cons, Nat.mul_succ]
    omega
theorem Tm.tup {ys : List PyData} {b d : Nat} (h : Tms ys b d) : Tm (.tuple ys) b (d + 1) :=
  ⟨by simp only [PyData.hasDict]; exact h.nd, by simp only [PyData.showable]; exact h.sh, by simp only [PyData.leavesShort]; exact h.lv, by simp only [PyData.bulk]; exact h.bk, by simp only [PyData.depth]; have := h.dp; omega⟩
theorem Tm.lst {ys : List PyData} {b d : Nat} (h : Tms ys b d) : Tm (.list ys) b (d + 1) :=
  ⟨by simp only [PyData.hasDict]; exact h.nd, by simp only [PyData.showable]; exact h.sh, by simp only [PyData.leavesShort]; exact h.lv, by simp only [PyData.bulk]; exact h.bk, by simp only [PyData.depth]; have := h.dp; omega⟩
theorem Shws.map {α : Type} {μ : Mu} {f : α → D} {g : α → PyData} (h : ∀ a, Shw μ (f a) (g a)) : ∀ l : List α, Shws μ (l.map f) (l.map g)
  | [] => .nil
  | a :: l => .cons (h a) (Shws.map h l)
theorem Tms.map {α : Type} {g : α → PyData} {b d : Nat} {l : List α} (h : ∀ a ∈ l, Tm (g a) b d) : Tms (l.map g) ((b + 1) * l.length) d := by
  have := Tms.all (ys := l.map g) (b := b) (d := d) fun y hy => by
    obtain ⟨a, ha, rfl⟩ := List.mem_map.mp hy
    exact h a ha
  rwa [List.length_map] at this
section
variable {X : Cy} {μ : Mu} {Φ : D → Mu → Prop}
/-- repr of small data -/
theorem c_reprT {d : D} (y : PyData) {k0 b e : Nat} (hr : Rm k0 X.A) (hd : Shw μ d y) (t : Tm y b e) (k : Φ (.str y.shown) μ) (hb : b ≤ 1048576 := by decide) (he : e ≤ 60 := by decide) : wCl X (.builtin "repr") [d] μ Φ :=
  c_repr y hr hd t.nd t.sh (PyData.shown_fits_bulk (B := 13) (by decide) (by decide) t.lv (Nat.le_trans t.bk (by omega))) (Nat.le_trans t.dp he) k
end
/-! ### t * n -/
theorem tuple_mul_1 (l : Addr) (items : Array Value) (n : Nat) (dd : Option Addr) (sl : Array (Option Value)) (u : Tok) :
    Meets (Builtin.«tuple.__mul__» ⟨[.ref l, .int 1 u], []⟩) (fun _ R s => s.heap.get? l = some { cls := .type "tuple", dict := dd, data := .seq items n, slots := sl } ∧ R (.ok (.ret (Value.ref l))) s) :=
  .of_wp fun prog w A R s h => by
    obtain ⟨hp, g, d, tk, os⟩ := s
    obtain ⟨hl, h⟩ := h
    have f1 := AutoSeq1.idx_int
    have c1 : (items.isEmpty || (1 : Int) == 1) = true := by simp
    wp_walk using wpAny_loadPart' hl
    all_goals exact ⟨_, rfl, h⟩
theorem tuple_mul_0 (l : Addr) (items : Array Value) (n : Nat) (dd : Option Addr) (sl : Array (Option Value)) (u : Tok) (hi : items.isEmpty = false) :
    Meets (Builtin.«tuple.__mul__» ⟨[.ref l, .int 0 u], []⟩) (fun _ R s => s.heap.get? l = some { cls := .type "tuple", dict := dd, data := .seq items n, slots := sl } ∧
      R (.ok (.ret (Value.ref s.heap.objs.size))) { s with heap := s.heap.push { cls := Value.type "tuple", data := Data.seq #[] }, toks := s.toks }) :=
  .of_wp fun prog w A R s h => by
    obtain ⟨hp, g, d, tk, os⟩ := s
    obtain ⟨hl, h⟩ := h
    have f1 := AutoSeq1.idx_int
    have c1 : (items.isEmpty || (0 : Int) == 1) = false := by rw [hi]; decide
    wp_walk using wpAny_loadPart' hl
    repeat (first
      | (refine wpAny_ite_false (decide_eq_false (by rw [c1]; exact Bool.false_ne_true)) ?_; wp_walk using wpAny_loadPart' hl)
      | (refine wpAny_ite_true (decide_eq_true (by simp)) ?_; wp_walk using wpAny_loadPart' hl))
    all_goals exact ⟨_, rfl, h⟩
/-- t * 0, t * 1 -/
def rRep01 (K : PySem.W.Frag) : R2 := fun x y H Q => ∃ l xs, x = .ref l ∧ SqT K H l xs ∧ xs ≠ [] ∧ ((y = .int 1 ∧ Q (.ref l) H) ∨ (y = .int 0 ∧ ∀ p, H p = none → Q (.ref p) (upd H p (.tup []))))
theorem op_rep01 {X : Cy} : OpR X (binaryOp .Mult) (rRep01 X.K) := by
  intro pins s σ H x y v u Q I rx ry h
  obtain ⟨l, xs, rfl, hT, hne, h⟩ := h
  cases rx
  obtain ⟨its, r, ⟨⟨cls, dd, data, sl⟩, ho, hc, n, hd⟩, hs⟩ := I.tuple hT
  simp only at hc hd
  subst hc hd
  have hn : its ≠ [] := fun e => hne (List.eq_nil_of_length_eq_zero (by rw [r.length, e]; rfl))
  have hi : its.toArray.isEmpty = false := by
    cases its with
    | nil => exact absurd rfl hn
    | cons a b => rfl
  rcases h with ⟨rfl, q⟩ | ⟨rfl, q⟩
  · obtain ⟨t, rfl⟩ := ry
    exact wpAny_binaryOp_repeat_ref (T := "tuple") (U := "int") (by decide) ⟨_, ho, rfl⟩ (fun s' => PySem.typeIs_int s' 1 t) noFill_tuple_mul PySem.F.fills_int_mul PySem.F.slot_int_rmul repeat_tuple PySem.F.slot_int_index.lookup
      (PySem.call_meets PySem.F.slot_int_rmul (PySem.typeIs_int s 1 t) PySem.F.entry_int_rmul (PySem.F.args_int_rmul_2 _ _) (int_rmul_tuple 1 t l its.toArray n dd sl)
        ⟨ho, rfl, ⟨_, ho, rfl⟩, PySem.call_meets PySem.F.slot_tuple_mul ⟨_, ho, rfl⟩ PySem.F.entry_tuple_mul (PySem.F.args_tuple_mul_2 _ _) (tuple_mul_1 l its.toArray n dd sl t) ⟨ho, ⟨.ref l, H, I, rfl, q⟩⟩⟩)
  · obtain ⟨t, rfl⟩ := ry
    refine wpAny_binaryOp_repeat_ref (T := "tuple") (U := "int") (by decide) ⟨_, ho, rfl⟩ (fun s' => PySem.typeIs_int s' 0 t) noFill_tuple_mul PySem.F.fills_int_mul PySem.F.slot_int_rmul repeat_tuple PySem.F.slot_int_index.lookup
      (PySem.call_meets PySem.F.slot_int_rmul (PySem.typeIs_int s 0 t) PySem.F.entry_int_rmul (PySem.F.args_int_rmul_2 _ _) (int_rmul_tuple 0 t l its.toArray n dd sl)
        ⟨ho, rfl, ⟨_, ho, rfl⟩, PySem.call_meets PySem.F.slot_tuple_mul ⟨_, ho, rfl⟩ PySem.F.entry_tuple_mul (PySem.F.args_tuple_mul_2 _ _) (tuple_mul_0 l its.toArray n dd sl t hi) ⟨ho, ?_⟩⟩)
    exact ⟨.ref s.heap.objs.size, _, I.laid (t' := s.toks) (o := .tup []) (fun b ob q => Heap.get?_push_of_some _ q) (Nat.le_refl _) ⟨Nat.zero_le _, [], .nil, PyProof.Rows.IsTup.new _ _⟩, rfl, q _ (I.hok.fresh (Nat.le_refl _))⟩
section
variable {X : Cy} {μ : Mu} {Φ : D → Mu → Prop}
theorem Reps.rep {K : PySem.W.Frag} {F : Hp} {v : List V} {d : List D} (r : Reps K F v d) : ∀ n : Nat, Reps K F (List.replicate n v).flatten (List.replicate n d).flatten
  | 0 => .nil
  | n + 1 => by
    rw [List.replicate_succ, List.replicate_succ, List.flatten_cons, List.flatten_cons]
    exact r.append (Reps.rep r n)
theorem o_repT {ds : List D} {k : Int} (hk : 0 ≤ k ∧ k ≤ 1000) (hne : ds ≠ []) (hz : ds.length ≤ 1000) (q : Φ (.tup (List.replicate k.toNat ds).flatten) μ) : wOp X (binaryOp .Mult) (.tup ds) (.int k) μ Φ := by
  by_cases h2 : 2 ≤ k
  · refine wop_of op_repT fun F H x y hs r1 r2 Q kt => ?_
    cases r2
    cases r1 with
    | tup g r =>
      refine ⟨_, k, _, rfl, rfl, (Evl.st_of (hs.ex _ _ g)), fun e => hne (List.eq_nil_of_length_eq_zero (by rw [← r.length, e]; rfl)), h2, hk.2, by rw [r.length]; exact hz, fun p hp => ?_⟩
      obtain ⟨g1, g2⟩ := hs.laid (u := .tup (List.replicate k.toNat _).flatten) hp
      exact kt _ _ _ _ _ q g2 g1 (.tup upd_same ((Reps.rep r _).mono g2))
  · refine wop_of op_rep01 fun F H x y hs r1 r2 Q kt => ?_
    cases r2
    cases r1 with
    | tup g r =>
      refine ⟨_, _, rfl, (Evl.st_of (hs.ex _ _ g)), fun e => hne (List.eq_nil_of_length_eq_zero (by rw [← r.length, e]; rfl)), ?_⟩
      by_cases h1 : k = 1
      · subst h1
        refine .inl ⟨rfl, kt.now (by simpa using q) hs (.tup g r)⟩
      · obtain rfl : k = 0 := by omega
        refine .inr ⟨rfl, fun p hp => ?_⟩
        obtain ⟨g1, g2⟩ := hs.laid (u := .tup []) hp
        exact kt _ _ _ _ _ q g2 g1 (.tup upd_same .nil)
end
end Oc

/-! Own layer: `is` of truths; == of data that can be laid. -/
namespace Oc
open PySem PySem.Spec L2
open Evl (Ex)
structure Ly (d : D) (n : Nat) : Prop where
  st : D.still d = true
  lay : d.py.canLay0 = true
  dp : d.py.depth ≤ n
structure Lys (ds : List D) (n : Nat) : Prop where
  st : D.stills ds = true
  lay : PyData.canLayAll0 (D.pys ds) = true
  dp : PyData.depthAll (D.pys ds) ≤ n
theorem Ly.mono {d : D} {n m : Nat} (h : Ly d n) (hn : n ≤ m) : Ly d m := ⟨h.st, h.lay, Nat.le_trans h.dp hn⟩
theorem Lys.mono {d : List D} {n m : Nat} (h : Lys d n) (hn : n ≤ m) : Lys d m := ⟨h.st, h.lay, Nat.le_trans h.dp hn⟩
theorem Ly.non : Ly .non 0 := ⟨by simp only [D.still], by simp only [D.py, PyData.canLay0], by simp only [D.py, PyData.depth]; exact Nat.le_refl _⟩
theorem Ly.int (i : Int) : Ly (.int i) 0 := ⟨by simp only [D.still], by simp only [D.py, PyData.canLay0], by simp only [D.py, PyData.depth]; exact Nat.le_refl _⟩
theorem Ly.bl (i : Bool) : Ly (.bl i) 0 := ⟨by simp only [D.still], by simp only [D.py, PyData.canLay0], by simp only [D.py, PyData.depth]; exact Nat.le_refl _⟩
theorem Lys.nil : Lys [] 0 := ⟨by simp only [D.stills], by simp only [D.pys, PyData.canLayAll0], by simp only [D.pys, PyData.depthAll]; exact Nat.le_refl _⟩
theorem Lys.cons {d : D} {ds : List D} {n m : Nat} (h : Ly d n) (t : Lys ds m) : Lys (d :: ds) (max n m) := ⟨by simp only [D.stills, h.st, t.st, Bool.and_self], by simp only [D.pys, PyData.canLayAll0, h.lay, t.lay, Bool.and_self], by
  simp only [D.pys, PyData.depthAll]; have := h.dp; have := t.dp; omega⟩
theorem Lys.all {n : Nat} : ∀ {ds : List D}, (∀ d ∈ ds, Ly d n) → Lys ds n
  | [], _ => Lys.nil.mono (Nat.zero_le _)
  | d :: ds, h => (Lys.cons (h d List.mem_cons_self) (Lys.all fun e he => h e (List.mem_cons_of_mem _ he))).mono (by omega)
theorem Ly.tup {ds : List D} {n : Nat} (h : Lys ds n) : Ly (.tup ds) (n + 1) := ⟨by simp only [D.still]; exact h.st, by simp only [D.py, PyData.canLay0]; exact h.lay, by simp only [D.py, PyData.depth]; have := h.dp; omega⟩
theorem Ly.lst {ds : List D} {n : Nat} (h : Lys ds n) : Ly (.lst ds) (n + 1) := ⟨by simp only [D.still]; exact h.st, by simp only [D.py, PyData.canLay0]; exact h.lay, by simp only [D.py, PyData.depth]; have := h.dp; omega⟩
theorem Lys.map {α : Type} {f : α → D} {n : Nat} {l : List α} (h : ∀ a ∈ l, Ly (f a) n) : Lys (l.map f) n := Lys.all fun d hd => by
  obtain ⟨a, ha, rfl⟩ := List.mem_map.mp hd
  exact h a ha
theorem Ly.shaped {d : D} {n : Nat} (h : Ly d n) (hn : n ≤ 64) : SeqAt.shaped d.py = true := by
  unfold SeqAt.shaped
  rw [h.lay, Bool.true_and]
  exact decide_eq_true (Nat.le_trans h.dp hn)
section
variable {X : Cy} {μ : Mu} {Φ : D → Mu → Prop} {d1 d2 : D} {n m : Nat}
theorem o_eqY (hu : X.c.A.units + 64 < cLine) (h1 : Ly d1 n) (h2 : Ly d2 m) (k : Φ (.bl (PyData.eqv d1.py d2.py)) μ) (hn : n ≤ 64 := by decide) (hm : m ≤ 64 := by decide) : wOp X (compareOp .Eq) d1 d2 μ Φ := o_eqD hu h1.st h2.st (h1.shaped hn) (h2.shaped hm) k
theorem o_neY (hu : X.c.A.units + 64 < cLine) (h1 : Ly d1 n) (h2 : Ly d2 m) (k : Φ (.bl (!PyData.eqv d1.py d2.py)) μ) (hn : n ≤ 64 := by decide) (hm : m ≤ 64 := by decide) : wOp X (compareOp .NotEq) d1 d2 μ Φ := o_neD hu h1.st h2.st (h1.shaped hn) (h2.shaped hm) k
theorem eqv_same {d : D} {n : Nat} (h : Ly d n) : PyData.eqv d.py d.py = true := SeqAt.eqv_refl _ h.lay
/-- the same data on both sides -/
theorem o_eqS (hu : X.c.A.units + 64 < cLine) (h1 : Ly d1 n) (k : Φ (.bl true) μ) (hn : n ≤ 64 := by decide) : wOp X (compareOp .Eq) d1 d1 μ Φ := o_eqY hu h1 h1 (by rw [eqv_same h1]; exact k) hn hn
theorem o_neS (hu : X.c.A.units + 64 < cLine) (h1 : Ly d1 n) (k : Φ (.bl false) μ) (hn : n ≤ 64 := by decide) : wOp X (compareOp .NotEq) d1 d1 μ Φ := o_neY hu h1 h1 (by rw [eqv_same h1]; exact k) hn hn
theorem o_isB {a b : Bool} (k : Φ (.bl (decide (a = b))) μ) : wOp X (compareOp .Is) (.bl a) (.bl b) μ Φ := wop_of op_is_bl fun F H x y hs r1 r2 Q kt => by
  cases r1
  cases r2
  exact ⟨a, b, rfl, rfl, kt.now k hs (.bl _)⟩
theorem o_notB {a b : Bool} (k : Φ (.bl (!decide (a = b))) μ) : wOp X (compareOp .IsNot) (.bl a) (.bl b) μ Φ := wop_of op_isnot_bl fun F H x y hs r1 r2 Q kt => by
  cases r1
  cases r2
  exact ⟨a, b, rfl, rfl, kt.now k hs (.bl _)⟩
end
section
variable {X : Cy} {k o : Expr} {ρ : Rho} {μ : Mu} {ΦT : Bool → Mu → Prop} {pos : Pos}
theorem wt_din (hu : X.c.A.units + 1 < cLine) (h : wE X k ρ μ fun d2 μ1 => wE X o ρ μ1 fun d1 μ2 => ∃ (q : Addr) (m : Nat) (ds : List (Key × D)) (kk : Key), d1 = .ptr q ∧ d2 = kD kk ∧ μ2[m]? = some (q, MO.dk ds) ∧ ΦT (valD ds kk).isSome μ2) (hm : behindInMarks .In o = false := by rfl) : wT X (.Compare k [.In] [o] pos) ρ μ ΦT := fun F σ H hh sl Q kt =>
  st_of (pt_cmp (pc_din hu pe_s pe_s) hm) (binW h hh sl fun y x F2 H2 d2 d1 μ2 ⟨q, m, ds, kk, h1, h2, hm, z⟩ e hs2 r2 r1 => by
    subst h1
    subst h2
    cases r1
    cases rep_kD r2
    obtain ⟨kvs, g, rk⟩ := hs2.dk hm
    refine ⟨q, _, rfl, DGet.k g, ?_⟩
    rw [← (rk.val kk).2]
    exact ⟨_, rfl, kt _ _ _ _ z e hs2⟩)
theorem wt_dnin (hu : X.c.A.units + 1 < cLine) (h : wE X k ρ μ fun d2 μ1 => wE X o ρ μ1 fun d1 μ2 => ∃ (q : Addr) (m : Nat) (ds : List (Key × D)) (kk : Key), d1 = .ptr q ∧ d2 = kD kk ∧ μ2[m]? = some (q, MO.dk ds) ∧ ΦT (!(valD ds kk).isSome) μ2) (hm : behindInMarks .NotIn o = false := by rfl) : wT X (.Compare k [.NotIn] [o] pos) ρ μ ΦT := fun F σ H hh sl Q kt =>
  st_of (pt_cmp (pc_dnotin hu pe_s pe_s) hm) (binW h hh sl fun y x F2 H2 d2 d1 μ2 ⟨q, m, ds, kk, h1, h2, hm, z⟩ e hs2 r2 r1 => by
    subst h1
    subst h2
    cases r1
    cases rep_kD r2
    obtain ⟨kvs, g, rk⟩ := hs2.dk hm
    refine ⟨q, _, rfl, DGet.k g, ?_⟩
    rw [← (rk.val kk).2]
    exact ⟨_, rfl, kt _ _ _ _ z e hs2⟩)
end
theorem fls_map {α : Type} {f : α → D} {g : α → V} (h : ∀ a, (f a).fl = some (g a)) : ∀ l : List α, D.fls (l.map f) = some (l.map g)
  | [] => rfl
  | a :: l => by
    rw [List.map_cons, List.map_cons, D.fls, h a, fls_map h l]
theorem inV_nat (g : Nat) : ∀ l : List Nat, inV (.int (g : Int)) (l.map fun a : Nat => V.int a) = l.any fun a => a == g
  | [] => rfl
  | a :: l => by
    have ih := inV_nat g l
    unfold inV at ih ⊢
    rw [List.map_cons, List.any_cons, List.any_cons, ih]
    refine congrArg (· || _) ?_
    show ((a : Int) == (g : Int)) = (a == g)
    rw [Bool.eq_iff_iff, beq_iff_eq, beq_iff_eq]
    omega
section
variable {X : Cy} {μ : Mu} {Φ : D → Mu → Prop} {d : D}
theorem o_inP {w : V} {q : Addr} {ds : List D} {ws : List V} (m : Nat) (hm : μ[m]? = some (q, MO.lst ds)) (h1 : d.fl = some w) (h2 : D.fls ds = some ws) (k : Φ (.bl (inV w ws)) μ) : wOp X (compareOp .In) d (.ptr q) μ Φ := wop_of op_in_seq fun F H u v hs r1 r2 Q kt => by
  cases rep_fl r1 h1
  cases r2
  obtain ⟨xs, g, rx⟩ := hs.lst hm
  cases rep_fls rx h2
  exact ⟨_, _, rfl, .inl (Evl.sq_of g), fl_flat h1, fls_flat h2, kt.now k hs (.bl _)⟩
theorem o_ninP {w : V} {q : Addr} {ds : List D} {ws : List V} (m : Nat) (hm : μ[m]? = some (q, MO.lst ds)) (h1 : d.fl = some w) (h2 : D.fls ds = some ws) (k : Φ (.bl (!inV w ws)) μ) : wOp X (compareOp .NotIn) d (.ptr q) μ Φ := wop_of op_notIn_seq fun F H u v hs r1 r2 Q kt => by
  cases rep_fl r1 h1
  cases r2
  obtain ⟨xs, g, rx⟩ := hs.lst hm
  cases rep_fls rx h2
  exact ⟨_, _, rfl, .inl (Evl.sq_of g), fl_flat h1, fls_flat h2, kt.now k hs (.bl _)⟩
end
end Oc

/-! Own layer: enumerate of a tuple, of a list; reversed. -/
namespace Oc
open PySem PySem.Spec L2
open Evl (Ex)
open PySem.AutoSeq1 (wpAny_loadPart')
theorem enum_newT (l : Addr) (items : Array Value) (n : Nat) (dct : Option Addr) (sl : Array (Option Value)) :
    Meets (Builtin.«enumerate.__new__» ⟨[.type "enumerate", .ref l], []⟩) (fun _ R s => s.heap.get? l = some { cls := .type "tuple", dict := dct, data := .seq items n, slots := sl } ∧
      R (.ok (.ret (.ref (s.heap.push { cls := .type "tuple_iterator", data := .fields #[.ref l, .int 0 0] }).objs.size)))
        { s with heap := (s.heap.push { cls := .type "tuple_iterator", data := .fields #[.ref l, .int 0 0] }).push { cls := .type "enumerate", data := .fields #[.none, .bool false, .ref s.heap.objs.size, rawInt 0, .none, .none] } }) :=
  .of_wp fun prog w A R s h => by
    obtain ⟨hp, g, d, tk, os⟩ := s
    obtain ⟨hl, h⟩ := h
    have hsub := sub_enumerate
    have hT : Heap.IsTuple (Shared.heap ⟨hp, g, d, tk, os⟩) l items := ⟨_, hl, rfl, n, rfl⟩
    wp_walk using wpAny_loadPart' hl
    refine wpAny_stack_any fun st => wpAny_pure ?_
    split
    · rename_i c _ _ _ _ _
      cases (c == Value.type "enumerate")
      · wp_walk using wpAny_loadPart' hl, wpAny_pyIter_tuple hT
        exact ⟨_, rfl, h⟩
      · wp_walk using wpAny_loadPart' hl, wpAny_pyIter_tuple hT
        exact ⟨_, rfl, h⟩
    · wp_walk using wpAny_loadPart' hl, wpAny_pyIter_tuple hT
      exact ⟨_, rfl, h⟩
section
variable {prog : Program} {w : World} {A : Around} {E : Value → Shared → Prop} {s : Shared}
theorem call_enumT {l : Addr} {items : Array Value} {Q : Value → Shared → Prop} (hT : s.heap.IsTuple l items)
    (h : ∀ h', IsEnum h' (s.heap.objs.size + 1) s.heap.objs.size 0 .none → h'.IsTupleIter s.heap.objs.size l 0 → (∀ b o, s.heap.get? b = some o → h'.get? b = some o) → Q (.ref (s.heap.objs.size + 1)) { s with heap := h' }) :
    wpAny (model prog w) A (call (.type "enumerate") [.ref l]) Q E s := by
  obtain ⟨⟨c, dct, dt, sl⟩, hl, hc, n, hd⟩ := hT
  obtain rfl : c = .type "tuple" := hc
  obtain rfl : dt = .seq items n := hd
  refine callType_new PySem.F.called_enumerate (by decide) (PySem.F.typeCall_enumerate_1 _) (PySem.F.newCall_enumerate_1 _) (fun obj => PySem.F.args_object_init_2 obj _) PySem.F.entry_enumerate_new (enum_newT l items n dct sl) ⟨hl, ?_⟩
  have hz : (s.heap.push { cls := .type "tuple_iterator", data := .fields #[.ref l, .int 0 0] }).objs.size = s.heap.objs.size + 1 := Heap.size_push ..
  have g1 := Heap.get?_push_size (s.heap.push { cls := .type "tuple_iterator", data := .fields #[.ref l, .int 0 0] }) (o := { cls := .type "enumerate", data := .fields #[.none, .bool false, .ref s.heap.objs.size, rawInt 0, .none, .none] }) rfl
  rw [hz] at g1
  show _ ∧ _
  rw [hz]
  exact ⟨⟨_, g1, rfl⟩, h _ g1 ⟨_, Heap.get?_push_of_some _ (Heap.get?_push_size _ rfl), rfl, rfl⟩ fun b o x => Heap.get?_push_of_some _ (Heap.get?_push_of_some _ x)⟩
end
/-- the pairs of a place and an item of the tuple at a -/
def Itet (K : PySem.W.Frag) (a : Addr) : It :=
  ⟨fun i H => ∃ (xs : List V) (x : V), SqT K H a xs ∧ xs[i]? = some x, fun i H v H' => ∃ T x, v = .ref T ∧ H T = none ∧ H' = upd H T (.tup [.int (i : Nat), x]) ∧ ∀ xs, SqT K H a xs → xs[i]? = some x, fun i H => ∃ xs : List V, SqT K H a xs ∧ i = xs.length⟩
theorem turn_enumT {P : Program} {w : World} {K : PySem.W.Frag} {elts : List Expr} {kk : Nat} {tpos : Pos} (a e it : Addr) (hne : e ≠ it) (hea : e ≠ a) (hia : a ≠ it) :
    Turn P w K (.Tuple elts kk tpos) (Itet K a) [e, it] e (fun i h => (∃ old, IsEnum h e it (0 + (i : Int)) old) ∧ h.IsTupleIter it a i) where
  mem := by simp
  obj := fun i h st b hb => by
    obtain ⟨⟨old, he⟩, ⟨o, ho, hc, hd⟩⟩ := st
    rcases List.mem_cons.mp hb with z | z
    · subst z; exact ⟨_, he, fun v q => nomatch q⟩
    · rcases List.mem_cons.mp z with z | z
      · subst z; exact ⟨o, ho, fun v q => by rw [hd] at q; cases q⟩
      · cases z
  keep := fun i h h' st k => by
    obtain ⟨⟨old, he⟩, ⟨o, ho, r⟩⟩ := st
    exact ⟨⟨old, k e (by simp) _ he⟩, ⟨o, k it (by simp) o ho, r⟩⟩
  item := by
    intro Y hP hw hK hc i pins s σ H E I hf st hg
    subst hP hw hK
    obtain ⟨xs, x, hq, hx⟩ := hg
    obtain ⟨its, rv, p, hz⟩ := I.tuple hq
    obtain ⟨u, hu, ru⟩ := rv.get hx
    have G := GoesN.enumFrom (prog := Y.prog) (w := Y.w) (A := Y.A) (elts := elts) (x1 := kk) (pos := tpos) 0 (Draws.tuple (A := Y.A.in1) (I.ok.hd hc) it a hia its.toArray) e hne (by simp [hne, hea]) (by simp)
    refine G.goes i s _ E (by rw [List.size_toArray]; exact (List.getElem?_eq_some_iff.mp hu).1) ⟨st.1, st.2, p⟩ fun v h' tk hY st' hk htk => ?_
    obtain ⟨T, t', u', rfl, hT, hu', hv⟩ := hY
    obtain rfl : u = u' := by
      rw [List.getElem?_toArray, hu] at hu'
      exact Option.some.inj hu'
    have new : ObjOk Y.prog Y.w (upd H T (.tup [.int (i : Nat), x])) h' T (.tup [.int (i : Nat), x]) :=
      ⟨by show 2 ≤ sizeLine; decide, [.int (0 + (i : Int)) t', u], .cons ⟨t', by rw [Int.zero_add]⟩ (.cons ru .nil), hv⟩
    have I1 := I.turnedNew (t' := tk) (ch := [e, it]) hk hf hT new
    refine ⟨.ref T, _, I1, rfl, ⟨T, x, rfl, I.hok.fresh hT, rfl, fun ys hy => by rw [I.tuple_inj hy hq]; exact hx⟩, ⟨st'.1, st'.2.1⟩, fun b hb => ?_⟩
    have hlt : b < s.heap.objs.size := by
      obtain ⟨⟨old, he⟩, ⟨o, ho, _⟩⟩ := st
      rcases List.mem_cons.mp hb with z | z
      · subst z; exact Heap.lt_size he
      · rcases List.mem_cons.mp z with z | z
        · subst z; exact Heap.lt_size ho
        · cases z
    rw [upd_ne (Nat.ne_of_lt (Nat.lt_of_lt_of_le hlt hT))]
    exact (hf b hb).1
  done := by
    intro Y hP hw hK hc i pins s σ H E I hf st hg
    subst hP hw hK
    obtain ⟨xs, hq, rfl⟩ := hg
    obtain ⟨its, rv, p, hz⟩ := I.tuple hq
    have G := GoesN.enumFrom (prog := Y.prog) (w := Y.w) (A := Y.A) (elts := elts) (x1 := kk) (pos := tpos) 0 (Draws.tuple (A := Y.A.in1) (I.ok.hd hc) it a hia its.toArray) e hne (by simp [hne, hea]) (by simp)
    refine G.stops s _ E (by rw [List.size_toArray, ← rv.length]; exact ⟨st.1, st.2, p⟩) fun h' tk hk htk => ?_
    exact I.turnedL hk hf
  self := fun A i s Q E st h => let ⟨⟨_, he⟩, _⟩ := st; wpAny_pyIter_enum he h
section
variable {X : Cy} {e : Expr} {ρ : Rho} {μ : Mu} {pos p : Pos}
def iEnumT (K : PySem.W.Frag) (ta : TA) : TI := fun σ H R => ta σ H fun vs H1 => ∃ a xs, vs = [.ref a] ∧ SqT K H1 a xs ∧ R (Itet K a) H1
theorem pi_enumT {ta : TA} {tpos : Pos} {elts : List Expr} {kk : Nat} (hg : Gl X "enumerate") (hm : X.mg "enumerate" = none) (ha : PA X [e] ta) (hs : starEach [e] X.env = [(false, eval e X.env)] := by rfl) : PI X (.Tuple elts kk tpos) (.Call (.Name "enumerate" p) [e] [] pos) (iEnumT X.K ta) := by
  refine ⟨fun pins s σ H R I h => PyProof.Rows.Call_ (ld_blt I hg hm PyProof.Rows.boot_enumerate (PyProof.Rows.callWith_type1 (thn (ha.run pos pins s σ H _ I h) fun us s1 hq => ?_) hs rfl))⟩
  obtain ⟨vs, H1, I1, r1, a, xs, rfl, hT, q⟩ := hq
  cases r1 with
  | cons r rr =>
    cases rr
    cases r
    obtain ⟨its, rv, p', hz⟩ := I1.tuple hT
    have alt : a < s1.heap.objs.size := PyProof.Rows.IsTup.lt p'
    refine call_enumT p' fun h' he hit hk => wpAny_pyIter_enum he ?_
    have I2 : Inv X pins σ H1 { s1 with heap := h' } := I1.kept (t' := s1.toks) hk
    refine ⟨s1.heap.objs.size + 1, [s1.heap.objs.size + 1, s1.heap.objs.size], _, _, H1, rfl, I2, turn_enumT a (s1.heap.objs.size + 1) s1.heap.objs.size (Nat.succ_ne_self _) (Nat.ne_of_gt (Nat.lt_succ_of_lt alt)) (Nat.ne_of_lt alt), ⟨⟨.none, he⟩, hit⟩, fun b hb => ?_, q⟩
    have hle : s1.heap.objs.size ≤ b := by
      rcases List.mem_cons.mp hb with z | z
      · rw [z]; exact Nat.le_succ _
      · rcases List.mem_cons.mp z with z | z
        · rw [z]; exact Nat.le_refl _
        · cases z
    exact I1.fpOk hle (I1.hok.fresh hle)
/-- the pairs of a place and an item -/
def enumD (ds : List D) : List D := (List.range ds.length).map fun i : Nat => .tup [.int i, ds.getD i .non]
theorem enumD_len {ds : List D} : (enumD ds).length = ds.length := by unfold enumD; rw [List.length_map, List.length_range]
theorem enumD_get {ds : List D} {i : Nat} {d : D} (h : (enumD ds)[i]? = some d) : ∃ x, ds[i]? = some x ∧ d = .tup [.int i, x] := by
  unfold enumD at h
  rw [List.getElem?_map] at h
  by_cases hi : i < ds.length
  · rw [List.getElem?_range hi] at h
    cases h
    exact ⟨ds[i], List.getElem?_eq_getElem hi, by show D.tup [D.int i, ds.getD i D.non] = _; rw [List.getD_eq_getElem?_getD, List.getElem?_eq_getElem hi]; rfl⟩
  · rw [List.getElem?_eq_none (by rw [List.length_range]; omega)] at h
    cases h
theorem wi_enumT {tpos : Pos} {elts : List Expr} {kk : Nat} {ΦI : List D → Mu → Prop} (hm : X.mg "enumerate" = none) (h : wE X e ρ μ fun d μ1 => ∃ ds, d = .tup ds ∧ ΦI (enumD ds) μ1) (hg : Gl X "enumerate" := by rfl) (hs : starEach [e] X.env = [(false, eval e X.env)] := by rfl) :
    wI X (.Tuple elts kk tpos) (.Call (.Name "enumerate" p) [e] [] pos) ρ μ ΦI := fun F σ H hh sl R kt =>
  si_of (pi_enumT hg hm (pa_cons pe_s pa_nil hs) hs) (h F σ H hh sl _ fun v F1 H1 d μ1 ⟨ds, hd, q⟩ e1 hs1 r1 => by
    subst hd
    cases r1 with
    | tup g r =>
      rename_i a xs
      refine ⟨a, xs, rfl, (Evl.st_of (hs1.ex _ _ g)), kt _ _ F1 μ1 H1 q e1 hs1 fun i F' μ' H' e' hs' => ?_⟩
      have g' : SqT X.K H' a xs := Evl.ex_t hs'.ex ((Evl.st_of (e' _ _ g)))
      rw [enumD_len]
      refine ⟨fun hi => ⟨xs, xs[i]'(by rw [r.length]; exact hi), g', List.getElem?_eq_getElem _⟩, fun hi => ⟨xs, g', by rw [r.length]; exact hi⟩, fun x H2 d hy hd => ?_⟩
      obtain ⟨T, y, rfl, hT, rfl, fy⟩ := hy
      obtain ⟨x', hx', rfl⟩ := enumD_get hd
      obtain ⟨z, h1, h2⟩ := r.get hx'
      cases (fy _ g').symm.trans h1
      obtain ⟨g1, g2⟩ := hs'.laid (u := .tup [.int (i : Nat), y]) hT
      exact ⟨_, g2, g1, .tup upd_same (.cons (.int _) (.cons ((h2.mono e').mono g2) .nil))⟩)
theorem wi_enumL {tpos : Pos} {elts : List Expr} {kk : Nat} {ΦI : List D → Mu → Prop} (hm : X.mg "enumerate" = none) (h : wE X e ρ μ fun d μ1 => ∃ ds, d = .lst ds ∧ ΦI (enumD ds) μ1) (hg : Gl X "enumerate" := by rfl) (hs : starEach [e] X.env = [(false, eval e X.env)] := by rfl) :
    wI X (.Tuple elts kk tpos) (.Call (.Name "enumerate" p) [e] [] pos) ρ μ ΦI := fun F σ H hh sl R kt =>
  si_of (pi_enum hg hm (pa_cons pe_s pa_nil hs) hs) (h F σ H hh sl _ fun v F1 H1 d μ1 ⟨ds, hd, q⟩ e1 hs1 r1 => by
    subst hd
    cases r1 with
    | lst g r =>
      rename_i a xs
      refine ⟨a, xs, rfl, Evl.ex_l hs1.ex (Evl.sq_of g), kt _ _ F1 μ1 H1 q e1 hs1 fun i F' μ' H' e' hs' => ?_⟩
      have g' : SqL X.K H' a xs := Evl.ex_l hs'.ex (Evl.ex_l e' (Evl.sq_of g))
      rw [enumD_len]
      refine ⟨fun hi => ⟨xs, xs[i]'(by rw [r.length]; exact hi), g', List.getElem?_eq_getElem _⟩, fun hi => ⟨xs, g', by rw [r.length]; exact Nat.le_of_eq hi.symm⟩, fun x H2 d hy hd => ?_⟩
      obtain ⟨T, y, rfl, hT, rfl, fy⟩ := hy
      obtain ⟨x', hx', rfl⟩ := enumD_get hd
      obtain ⟨z, h1, h2⟩ := r.get hx'
      cases (fy _ g').symm.trans h1
      obtain ⟨g1, g2⟩ := hs'.laid (u := .tup [.int (i : Nat), y]) hT
      exact ⟨_, g2, g1, .tup upd_same (.cons (.int _) (.cons ((h2.mono e').mono g2) .nil))⟩)
theorem wi_revT {tg : Expr} {ΦI : List D → Mu → Prop} (hm : X.mg "reversed" = none) (h : wE X e ρ μ fun d μ1 => ∃ ds, d = .tup ds ∧ ΦI ds.reverse μ1) (hg : Gl X "reversed" := by rfl) (hs : starEach [e] X.env = (false, eval e X.env) :: starEach [] X.env := by rfl) :
    wI X tg (.Call (.Name "reversed" p) [e] [] pos) ρ μ ΦI := fun F σ H hh sl R kt =>
  si_of (RT.pi_revA hg hm pe_s hs) (h F σ H hh sl _ fun v F1 H1 d μ1 ⟨ds, hd, q⟩ e1 hs1 r1 => by
    subst hd
    cases r1 with
    | tup g r =>
      rename_i a xs
      refine ⟨a, xs, rfl, .inr ⟨(Evl.st_of (hs1.ex _ _ g)), kt _ _ F1 μ1 H1 q e1 hs1 fun i F' μ' H' e' hs' => ?_⟩⟩
      have g' : SqT X.K H' a xs := Evl.ex_t hs'.ex ((Evl.st_of (e' _ _ g)))
      have hl := r.length
      rw [List.length_reverse]
      refine ⟨fun hi => ⟨by omega, xs, xs[xs.length - 1 - i]'(by omega), g', List.getElem?_eq_getElem _⟩, fun hi => by show xs.length ≤ i; omega, fun x H2 d hy hd => ?_⟩
      obtain ⟨rfl, fy⟩ := hy
      have hi : i < ds.length := by have := (List.getElem?_eq_some_iff.mp hd).1; rwa [List.length_reverse] at this
      rw [List.getElem?_reverse hi, ← hl] at hd
      obtain ⟨y, h1, h2⟩ := r.get hd
      cases (fy _ g').symm.trans h1
      exact ⟨F', Ex.refl _, hs', h2.mono e'⟩)
end
end Oc

/-! Own layer: list(range), pop at a place, insert, lists times n, loops over a list that may change elsewhere. -/
namespace Oc
open PySem PySem.Spec L2
open Evl (Ex)
section
variable {X : Cy} {a b e o : Expr} {es : List Expr} {ρ : Rho} {μ : Mu} {Φ : D → Mu → Prop} {E : En} {pos p p2 cpos apos : Pos}
theorem rg_reps {K : PySem.W.Frag} {F : Hp} (i j : Int) : Reps K F (rgV i j) (rngD i (j - i).toNat) := reps_map (fun k => .int _) _
/-- list(range(a, b)): a new cell -/
theorem w_listRg2 {p0 : Pos} (hc : X.calm = true) (hl : X.mg "list" = none) (hm : X.mg "range" = none) (h : wE X a ρ μ fun d μ1 => wE X b ρ μ1 fun d' μ2 => ∃ i j : Int, d = .int i ∧ d' = .int j ∧ (-1000000 ≤ i ∧ i ≤ 1000000 ∧ -1000000 ≤ j ∧ j ≤ 1000000) ∧ ∀ q, Φ (.ptr q) ((q, .lst (rngD i (j - i).toNat)) :: μ2))
    (hgl : Gl X "list" := by rfl) (hg : Gl X "range" := by rfl) (na : starEach [a, b] X.env = (false, eval a X.env) :: starEach [b] X.env := by rfl) (nb : starEach [b] X.env = (false, eval b X.env) :: starEach [] X.env := by rfl) (hp : (backTo p0 (starEach [b] X.env)).any (·.1) = false := by rfl)
    (nl : starEach [.Call (.Name "range" p) [a, b] [] p0] X.env = (false, eval (.Call (.Name "range" p) [a, b] [] p0) X.env) :: starEach [] X.env := by rfl) : wE X (.Call (.Name "list" p2) [.Call (.Name "range" p) [a, b] [] p0] [] pos) ρ μ Φ := fun F σ H hh sl Q kt =>
  se_of (pe_listRg hc hgl hl (prg_2 hg hm pe_s pe_s na nb hp) nl) (binW h hh sl fun x y F2 H2 d1 d2 μ2 z e2 hs2 r1 r2 => by
    obtain ⟨i, j, rfl, rfl, hb, q⟩ := z
    cases r1
    cases r2
    exact ⟨i, j, rfl, rfl, ⟨by omega, by omega, by omega, by omega, by omega⟩, fun q' hq => kt _ _ _ _ _ (q q') e2 (hs2.cell hq (.lst (rg_reps i j))) (.ptr q')⟩)
theorem w_listRg1 {p0 : Pos} (hc : X.calm = true) (hl : X.mg "list" = none) (hm : X.mg "range" = none) (h : wE X a ρ μ fun d μ1 => ∃ j : Int, d = .int j ∧ (-1000000 ≤ j ∧ j ≤ 1000000) ∧ ∀ q, Φ (.ptr q) ((q, .lst (rngD 0 j.toNat)) :: μ1))
    (hgl : Gl X "list" := by rfl) (hg : Gl X "range" := by rfl) (na : starEach [a] X.env = (false, eval a X.env) :: starEach [] X.env := by rfl)
    (nl : starEach [.Call (.Name "range" p) [a] [] p0] X.env = (false, eval (.Call (.Name "range" p) [a] [] p0) X.env) :: starEach [] X.env := by rfl) : wE X (.Call (.Name "list" p2) [.Call (.Name "range" p) [a] [] p0] [] pos) ρ μ Φ := fun F σ H hh sl Q kt =>
  se_of (pe_listRg hc hgl hl (prg_1 hg hm pe_s na) nl) (h F σ H hh sl _ fun v F1 H1 d μ1 z e1 hs1 r1 => by
    obtain ⟨j, rfl, hb, q⟩ := z
    cases r1
    refine ⟨j, rfl, ⟨by omega, by omega, by omega, by omega, by omega⟩, fun q' hq => kt _ _ _ _ _ (q q') e1 (hs1.cell hq (.lst ?_)) (.ptr q')⟩
    have := rg_reps (K := X.K) (F := F1) 0 j
    rwa [Int.sub_zero] at this)
theorem Reps.eraseIdx {K : PySem.W.Frag} {F : Hp} : ∀ {v : List V} {d : List D} (n : Nat), Reps K F v d → Reps K F (v.eraseIdx n) (d.eraseIdx n)
  | _, _, _, .nil => .nil
  | _, _, 0, .cons _ r => r
  | _, _, n + 1, .cons q r => .cons q (Reps.eraseIdx n r)
theorem m_popAt {q : Addr} {ds : List D} {d : D} (m : Nat) (hm : μ[m]? = some (q, .lst ds)) (n : Nat) (hd : ds[n]? = some d) (hz : ds.length ≤ 1000000) (k : Φ d (μ.set m (q, .lst (ds.eraseIdx n)))) : wMt X "list" "list.pop" (.ptr q) [.int n] μ Φ := by
  have hl := (List.getElem?_eq_some_iff.mp hd).1
  refine wmt_of mt_popAt fun F H u us hs r1 r2 Q kt => ?_
  cases r1
  cases r2 with
  | cons r rr =>
    cases rr
    cases r
    obtain ⟨xs, g, rx⟩ := hs.lst hm
    obtain ⟨v, h1, h2⟩ := rx.get hd
    refine ⟨_, _, _, n, v, rfl, rfl, g, by omega, by omega, ?_, h1, kt.now k (hs.write hm (.lst (Reps.eraseIdx n rx))) h2⟩
    have hx : n < xs.length := by rw [rx.length]; exact hl
    have h9 : ¬ ((n : Int) < 0) := by omega
    unfold seqIndex?
    simp only [if_neg h9]
    simp
    omega
theorem m_insert {q : Addr} {ds : List D} {d : D} (m : Nat) (hm : μ[m]? = some (q, .lst ds)) (n : Nat) (hn : n ≤ 1000000) (hz : ds.length ≤ 1000000) (k : Φ .non (μ.set m (q, .lst (ds.take n ++ [d] ++ ds.drop n)))) : wMt X "list" "list.insert" (.ptr q) [.int n, d] μ Φ :=
  wmt_of mt_insert fun F H u us hs r1 r2 Q kt => by
  cases r1
  cases r2 with
  | cons r rr =>
    cases rr with
    | cons r2 rr =>
      cases rr
      cases r
      obtain ⟨xs, g, rx⟩ := hs.lst hm
      refine ⟨_, _, n, _, rfl, rfl, g, Nat.lt_of_le_of_lt (by rw [rx.length]; exact hz) (show 1000000 < sizeLine by decide), by omega, by omega, ?_⟩
      rw [Int.toNat_natCast]
      exact kt.now k (hs.write hm (.lst (((rx.take n).append (.one r2)).append (rx.drop n)))) .non
theorem w_popAt (h : wE X o ρ μ fun d μ1 => tyD "list" d μ1 ∧ wA X [e] ρ μ1 fun ds μ2 => wMt X "list" "list.pop" d ds μ2 Φ) (hbase : attributeBase o "pop" X.env (eval o X.env) = eval o X.env := by rfl)
    (hfew : ((backTo cpos (starEach [e] X.env)).all (fun x => !x.1) && (backToKw cpos (keywordEach [] X.env)).all (fun x => x.1.isSome) && decide (([e] : List Expr).length + ([] : List Keyword).length + (if ([] : List Keyword).isEmpty then 0 else 1) < 30)) = true := by rfl)
    (hline : (apos.endLine == cpos.line) = true := by rfl) (hs : starEach [e] X.env = (false, eval e X.env) :: starEach [] X.env := by rfl) : wE X (.Call (.Attribute o "pop" apos) [e] [] cpos) ρ μ Φ :=
  w_bm (by decide) PySem.F.plainAttrs_list PySem.F.slot_list_pop PySem.F.type_list_pop h hbase hfew hline hs rfl
theorem w_insert (h : wE X o ρ μ fun d μ1 => tyD "list" d μ1 ∧ wA X [a, b] ρ μ1 fun ds μ2 => wMt X "list" "list.insert" d ds μ2 Φ) (hbase : attributeBase o "insert" X.env (eval o X.env) = eval o X.env := by rfl)
    (hfew : ((backTo cpos (starEach [a, b] X.env)).all (fun x => !x.1) && (backToKw cpos (keywordEach [] X.env)).all (fun x => x.1.isSome) && decide (([a, b] : List Expr).length + ([] : List Keyword).length + (if ([] : List Keyword).isEmpty then 0 else 1) < 30)) = true := by rfl)
    (hline : (apos.endLine == cpos.line) = true := by rfl) (hs : starEach [a, b] X.env = (false, eval a X.env) :: starEach [b] X.env := by rfl) (hp : (backTo cpos (starEach [b] X.env)).any (·.1) = false := by rfl) : wE X (.Call (.Attribute o "insert" apos) [a, b] [] cpos) ρ μ Φ :=
  w_bm (by decide) PySem.F.plainAttrs_list PySem.F.slot_list_insert PySem.F.type_list_insert h hbase hfew hline hs hp
/-- [..] * n: a new cell -/
theorem o_repL {ds : List D} {k : Int} (hk : 0 ≤ k ∧ k ≤ 1000) (hz : ds.length ≤ 1000) (q : ∀ p, Φ (.ptr p) ((p, .lst (List.replicate k.toNat ds).flatten) :: μ)) : wOp X (binaryOp .Mult) (.lst ds) (.int k) μ Φ := wop_of op_rep fun F H x y hs r1 r2 Q kt => by
  cases r2
  cases r1 with
  | lst g r =>
    have h1 : ds.length * k.toNat ≤ 1000 * 1000 := Nat.mul_le_mul hz (by omega)
    refine ⟨_, k, _, rfl, rfl, hs.ex _ _ g, by omega, by omega, Nat.le_trans (by rw [r.length]; exact h1) (show 1000 * 1000 ≤ sizeLine by decide), fun p hp => ?_⟩
    exact kt _ _ _ _ _ (q p) (Ex.refl _) (hs.cell hp (.lst (Reps.rep r _))) (.ptr p)
/-- a list that may change, and one that stands still -/
theorem o_addPL {q : Addr} {xs ys : List D} (m : Nat) (hm : μ[m]? = some (q, MO.lst xs)) (hc : xs.length + ys.length ≤ 1000000) (k : Φ (.lst (xs ++ ys)) μ) : wOp X (binaryOp .Add) (.ptr q) (.lst ys) μ Φ := wop_of op_cat fun F H _ _ hs r1 r2 Q kt => by
  cases r1
  cases r2 with
  | lst g2 q2 =>
    obtain ⟨vs, g1, q1⟩ := hs.lst hm
    have l1 := q1.length
    have l2 := q2.length
    refine ⟨_, _, _, _, rfl, rfl, g1, hs.ex _ _ g2, Nat.le_trans (by omega) (show 1000000 ≤ sizeLine by decide), fun p hp => ?_⟩
    obtain ⟨s1, s2⟩ := hs.laid (u := .lst _) hp
    exact kt _ _ _ _ _ k s2 s1 (.lst upd_same ((q1.append q2).mono s2))
theorem c_isiP {n : String} {q : Addr} {ds : List D} {k : Bool} (m : Nat) (hm : μ[m]? = some (q, MO.lst ds)) (hk : PySem.W.kitOne X.K (.type "list") (.type n) = some k) (z : Φ (.bl k) μ) : wCl X (.builtin "isinstance") [.ptr q, .ty n] μ Φ := wcl_of call_isi fun F H xs hs r1 Q kt => by
  cases r1 with
  | cons r rr =>
    cases rr with
    | cons r2 rr =>
      cases rr
      cases r2
      cases r
      obtain ⟨vs, g, rx⟩ := hs.lst hm
      exact ⟨_, _, _, _, k, rfl, .ty n, .base (.lst g), hk, kt.now z hs (.bl _)⟩
/-! loops over a cell -/
def WkP (K : KF) (F : Hp) (J : It) (its : List D) (P : Mu → Prop) : Prop := ∀ i F' μ H, Ex F F' → P μ → Hs K F' μ H → (i < its.length → J.go i H) ∧ (i = its.length → J.stop i H) ∧ ∀ x H' d, J.yld i H x H' → its[i]? = some d → ∃ F2, Ex F' F2 ∧ Hs K F2 μ H' ∧ Rep K F2 x d
def wIP (X : Cy) (tg iter : Expr) (ρ : Rho) (μ : Mu) (ΦI : List D → (Mu → Prop) → Mu → Prop) : Prop := ∀ F σ H, Hs X.K F μ H → Sl X.K F ρ σ → ∀ R, (∀ J its P F' μ' H', ΦI its P μ' → Ex F F' → Hs X.K F' μ' H' → WkP X.K F' J its P → R J H') → sI X tg iter σ H R
theorem wi_ptr {tg : Expr} {ΦI : List D → (Mu → Prop) → Mu → Prop} (h : wE X e ρ μ fun d μ1 => ∃ q ds, d = .ptr q ∧ (∃ m : Nat, μ1[m]? = some (q, MO.lst ds)) ∧ ΦI ds (fun μ' => ∃ m : Nat, μ'[m]? = some (q, MO.lst ds)) μ1) : wIP X tg e ρ μ ΦI := fun F σ H hs sl R kt =>
  si_of (pi_list pe_s) (h F σ H hs sl _ fun v F1 H1 d μ1 ⟨q, ds, hd, ⟨m, hm⟩, z⟩ e1 hs1 r1 => by
    subst hd
    cases r1
    obtain ⟨xs, g, r⟩ := hs1.lst hm
    refine ⟨q, rfl, ⟨xs, Evl.sq_of g⟩, kt _ ds _ F1 μ1 H1 z e1 hs1 fun i F' μ' H' e' ⟨m', hm'⟩ hs' => ?_⟩
    obtain ⟨ys, g', r'⟩ := hs'.lst hm'
    refine ⟨fun hi => ⟨ys, ys[i]'(by rw [r'.length]; exact hi), Evl.sq_of g', List.getElem?_eq_getElem _⟩, fun hi => ⟨ys, Evl.sq_of g', by rw [r'.length]; exact Nat.le_of_eq hi.symm⟩, fun x H2 d hy hd => ?_⟩
    obtain ⟨rfl, fy⟩ := hy
    obtain ⟨y, h1, h2⟩ := r'.get hd
    cases (fy _ (Evl.sq_of g')).symm.trans h1
    exact ⟨F', Ex.refl _, hs', h2⟩)
theorem w_forP {tg iter : Expr} {body : List Stmt} (h : wIP X tg iter ρ μ fun its P μ1 => ∃ Iv : Nat → Rho → Mu → Prop, Iv 0 ρ μ1 ∧ (∀ i ρ' μ', Iv i ρ' μ' → P μ') ∧
      (∀ i x ρ' μ', its[i]? = some x → Iv i ρ' μ' → wG X tg x ρ' μ' fun ρ2 μ2 => wSs X body ρ2 μ2 { nx := Iv (i + 1), rt := E.rt, bk := E.nx, ct := Iv (i + 1) }) ∧ (∀ ρ' μ', Iv its.length ρ' μ' → E.nx ρ' μ'))
    (hp : PassesOwn (model X.prog X.w) X.A X.env X.xe) (hc : X.calm = true) (hs : ∀ x, foldedSetIterable iter X.env x = pure x := by intro _; rfl) : wS X (.For tg iter body [] pos) ρ μ E := fun F σ H hh sl D kt =>
  ss_of (ps_for hp hc pi_s pg_s pss_s hs) (h F σ H hh sl _ fun J its P F1 μ1 H1 ⟨Iv, h0, hP, ht, hd⟩ e1 hs1 wk => by
    refine ⟨fun i m σ' H' => m = its.length - i ∧ i ≤ its.length ∧ ∃ F' ρ' μ', Ex F1 F' ∧ Hs X.K F' μ' H' ∧ Sl X.K F' ρ' σ' ∧ Iv i ρ' μ', ⟨its.length, by simp, Nat.zero_le _, F1, ρ, μ1, Ex.refl _, hs1, sl.mono e1, h0⟩, ?_⟩
    rintro i m σ' H' ⟨rfl, hi, F', ρ', μ', e2, hs2, sl2, iv⟩
    obtain ⟨w1, w2, w3⟩ := wk i F' μ' H' e2 (hP i ρ' μ' iv) hs2
    by_cases hlt : i < its.length
    · refine .inr ⟨w1 hlt, fun σ3 H3 => ∃ F3 ρ3 μ3, Ex F1 F3 ∧ Hs X.K F3 μ3 H3 ∧ Sl X.K F3 ρ3 σ3 ∧ Iv (i + 1) ρ3 μ3, fun σ3 H3 q => ⟨its.length - (i + 1), by omega, rfl, hlt, q⟩, fun x H3 hy => ?_⟩
      have hx : its[i]? = some its[i] := List.getElem?_eq_getElem hlt
      obtain ⟨F3, e3, hs3, r3⟩ := w3 x H3 _ hy hx
      refine ht i _ ρ' μ' hx iv F3 σ' H3 x hs3 (sl2.mono e3) r3 _ fun F4 H4 σ4 ρ4 μ4 q4 e4 hs4 sl4 => ?_
      have up : ∀ {F5 : Hp}, Ex F4 F5 → Ex F1 F5 := fun z => e2.trans (e3.trans (e4.trans z))
      refine q4 F4 σ4 H4 hs4 sl4 _ ⟨fun F5 H5 σ5 ρ5 μ5 q5 e5 hs5 sl5 => ⟨F5, ρ5, μ5, up e5, hs5, sl5, q5⟩, ?_, ?_, fun F5 H5 σ5 ρ5 μ5 q5 e5 hs5 sl5 => ⟨F5, ρ5, μ5, up e5, hs5, sl5, q5⟩⟩
      · exact kt.rt.mono (e1.trans (up (Ex.refl _)))
      · exact kt.nx.mono (e1.trans (up (Ex.refl _)))
    · have he : i = its.length := by omega
      subst he
      exact .inl ⟨w2 rfl, kt.nx F' H' σ' ρ' μ' (hd ρ' μ' iv) (e1.trans e2) hs2 sl2⟩)
end
end Oc

/-! Own layer: texts times a number, texts sorted. -/
namespace Oc
open PySem PySem.Spec L2
open Evl (Ex)
section
variable {X : Cy} {μ : Mu} {Φ : D → Mu → Prop} {d : D}
theorem strs_of {K : PySem.W.Frag} {F : Hp} : ∀ {v : List V} {xs : List Str}, Reps K F v (xs.map D.str) → v = xs.map V.str
  | _, [], .nil => rfl
  | _, _ :: _, .cons r rr => by cases r; rw [strs_of rr]; rfl
/-- sorted(xs) of texts: a new cell -/
theorem c_sortedS {xs : List Str} (hd : d = .lst (xs.map D.str)) (hz : xs.length < 64) (k : ∀ (ys : List Str) (p : Addr), ys.Perm xs → PyProof.Rows.sortedS ys = true → Φ (.ptr p) ((p, .lst (ys.map D.str)) :: μ)) : wCl X (.builtin "sorted") [d] μ Φ :=
  wcl_of cr_sortedS fun F H vs hs r1 Q kt => by
  subst hd
  cases r1 with
  | cons r rr =>
    cases rr
    cases r with
    | lst g r =>
      have e := strs_of r
      subst e
      exact ⟨_, xs, rfl, Evl.sq_of (hs.ex _ _ g), hz, fun ys p h1 h2 hp => kt _ _ _ _ _ (k ys p h1 h2) (Ex.refl _) (hs.cell hp (.lst (reps_map (fun y => .str y) ys))) (.ptr p)⟩
end
/-! sorted texts are one -/
open PyProof.Rows (sortedS risingS ltCps_eq) in
theorem rising_pw : ∀ (p : Str) (l : List Str), risingS p l = true → (p :: l).Pairwise fun a b => a.cps.toList ≤ b.cps.toList
  | p, [], _ => List.pairwise_singleton _ _
  | p, x :: r, h => by
    have h1 : (!ltCps x.cps.toList p.cps.toList && risingS x r) = true := h
    rw [Bool.and_eq_true, Bool.not_eq_true', ltCps_eq, decide_eq_false_iff_not] at h1
    have ih := rising_pw x r h1.2
    have hpx : p.cps.toList ≤ x.cps.toList := h1.1
    refine List.pairwise_cons.mpr ⟨fun y hy => ?_, ih⟩
    rcases List.mem_cons.mp hy with rfl | hy
    · exact hpx
    · exact List.le_trans hpx (List.rel_of_pairwise_cons ih hy)
open PyProof.Rows (sortedS) in
theorem sorted_pw {l : List Str} (h : sortedS l = true) : l.Pairwise fun a b => a.cps.toList ≤ b.cps.toList := by
  cases l with
  | nil => exact .nil
  | cons x r => exact rising_pw x r h
theorem pw_uniq : ∀ (l l' : List Str), l.Perm l' → l.Pairwise (fun a b => a.cps.toList ≤ b.cps.toList) → l'.Pairwise (fun a b => a.cps.toList ≤ b.cps.toList) → l = l'
  | [], l', h, _, _ => (List.Perm.nil_eq h)
  | x :: r, [], h, _, _ => absurd h.length_eq (by simp)
  | x :: r, y :: t, h, h1, h2 => by
    have hxy : x.cps.toList ≤ y.cps.toList := by
      have := h.mem_iff.mpr (List.mem_cons_self (a := y) (l := t))
      rcases List.mem_cons.mp this with rfl | hy
      · exact List.le_refl _
      · exact List.rel_of_pairwise_cons h1 hy
    have hyx : y.cps.toList ≤ x.cps.toList := by
      have := h.mem_iff.mp (List.mem_cons_self (a := x) (l := r))
      rcases List.mem_cons.mp this with rfl | hy
      · exact List.le_refl _
      · exact List.rel_of_pairwise_cons h2 hy
    have e : x = y := PyProof.Rows.str_eq_of_lists (List.le_antisymm hxy hyx)
    subst e
    rw [pw_uniq r t (List.Perm.cons_inv h) (List.pairwise_cons.mp h1).2 (List.pairwise_cons.mp h2).2]
theorem sorted_uniq {l l' xs : List Str} (h : l.Perm xs) (h' : l'.Perm xs) (s : PyProof.Rows.sortedS l = true) (s' : PyProof.Rows.sortedS l' = true) : l = l' := pw_uniq l l' (h.trans h'.symm) (sorted_pw s) (sorted_pw s')
theorem nodup_perm : ∀ {α : Type} [DecidableEq α] {l l' : List α}, l.Nodup → l'.Nodup → (∀ x, x ∈ l ↔ x ∈ l') → l.Perm l'
  | _, _, l, l', h, h', e => by
    rw [List.perm_iff_count]
    intro a
    by_cases ha : a ∈ l
    · rw [h.count, h'.count, if_pos ha, if_pos ((e a).mp ha)]
    · rw [List.count_eq_zero.mpr ha, List.count_eq_zero.mpr fun z => ha ((e a).mpr z)]
/-- a sign times a small number -/
theorem op_mulC {X : Cy} : OpR X (binaryOp .Mult) (fun x y H Q => ∃ (c v : Nat), x = .str ⟨#[c]⟩ ∧ y = .int (v : Int) ∧ (1 ≤ v ∧ v ≤ 5) ∧ Q (.str ⟨(List.replicate v c).toArray⟩) H) := by
  intro pins s σ H x y u w Q I rx ry h
  obtain ⟨c, v, rfl, rfl, hv, q⟩ := h
  obtain ⟨t, rfl⟩ := rx
  obtain ⟨t', rfl⟩ := ry
  have hl1 : (⟨#[c]⟩ : Str).length = 1 := rfl
  refine PySem.P.mul_str (by rw [decide_eq_false (by omega), decide_eq_false (by omega)]; rfl) (fun _ _ => by rw [hl1]; exact (match v, hv with
    | 1, _ => by decide
    | 2, _ => by decide
    | 3, _ => by decide
    | 4, _ => by decide
    | 5, _ => by decide)) (fun _ _ => by rw [hl1]; exact (match v, hv with
    | 1, _ => by decide
    | 2, _ => by decide
    | 3, _ => by decide
    | 4, _ => by decide
    | 5, _ => by decide)) ?_
  rw [if_neg (by omega)]
  match v, hv with
  | 1, _ => rw [if_pos (by rfl)]; exact ⟨.str _, H, I, ⟨_, rfl⟩, q⟩
  | 2, _ => rw [if_neg (by rw [hl1]; decide)]; exact ⟨by show 2 ≤ sizeLine; decide, .str _, H, I.tok _, ⟨_, rfl⟩, q⟩
  | 3, _ => rw [if_neg (by rw [hl1]; decide)]; exact ⟨by show 3 ≤ sizeLine; decide, .str _, H, I.tok _, ⟨_, rfl⟩, q⟩
  | 4, _ => rw [if_neg (by rw [hl1]; decide)]; exact ⟨by show 4 ≤ sizeLine; decide, .str _, H, I.tok _, ⟨_, rfl⟩, q⟩
  | 5, _ => rw [if_neg (by rw [hl1]; decide)]; exact ⟨by show 5 ≤ sizeLine; decide, .str _, H, I.tok _, ⟨_, rfl⟩, q⟩
theorem o_mulC {X : Cy} {μ : Mu} {Φ : D → Mu → Prop} {c v : Nat} (hv : 1 ≤ v ∧ v ≤ 5) (k : Φ (.str ⟨(List.replicate v c).toArray⟩) μ) : wOp X (binaryOp .Mult) (.str ⟨#[c]⟩) (.int v) μ Φ := wop_of op_mulC fun F H x y hs r1 r2 Q kt => by
  cases r1
  cases r2
  exact ⟨c, v, rfl, rfl, hv, kt.now k hs (.str _)⟩
end Oc

/-! Own layer: dicts whose keys are tuples. -/
namespace Oc
open PySem PySem.Spec L2
open Evl (Ex)
/-- a tuple as a key -/
abbrev tkD (k : List Key) : D := .tup (k.map kD)
theorem rep_tk {K : PySem.W.Frag} {F : Hp} {v : V} {k : List Key} (r : Rep K F v (tkD k)) : ∃ b, v = .ref b ∧ F b = some (.tup (k.map kV)) := by
  cases r with
  | tup g q =>
    rw [rep_kDs q] at g
    exact ⟨_, rfl, g⟩
section
variable {X : Cy} {o k e f : Expr} {ρ : Rho} {μ : Mu} {Φ : D → Mu → Prop} {ΦT : Bool → Mu → Prop} {E : En} {pos apos cpos : Pos}
/-- the key on D -/
def TK (d : D) (k : List Key) : Prop := d = tkD k
theorem w_tget (hu : X.c.A.units + 1 < cLine) (h : wE X o ρ μ fun d1 μ1 => wE X k ρ μ1 fun d2 μ2 => ∃ (q : Addr) (m : Nat) (ds : List (List Key × D)) (kk : List Key) (d : D), d1 = .ptr q ∧ d2 = tkD kk ∧ μ2[m]? = some (q, MO.dt ds) ∧ valD ds kk = some d ∧ Φ d μ2) (hs : NoSl k := by exact fun _ _ => rfl) : wE X (.Subscript o k pos) ρ μ Φ := fun F σ H hh sl Q kt =>
  se_of (pe_dget hu pe_s pe_s hs) (binW h hh sl fun x y F2 H2 d1 d2 μ2 ⟨q, m, ds, kk, d, h1, h2, hm, hv, z⟩ e hs2 r1 r2 => by
    subst h1
    subst h2
    cases r1
    obtain ⟨b, rfl, hb⟩ := rep_tk r2
    obtain ⟨kvs, g, rk⟩ := hs2.dt hm
    obtain ⟨v, hv, rv⟩ := (rk.val kk).1 d hv
    exact ⟨q, v, rfl, by rw [← hv]; exact DGet.t g (hs2.ex _ _ hb), kt _ _ _ _ _ z e hs2 rv⟩)
theorem w_tput (hu : X.c.A.units + 1 < cLine) {q0 : Pos} (h : wE X e ρ μ fun d μ0 => wE X o ρ μ0 fun d1 μ1 => wE X k ρ μ1 fun d2 μ2 => ∃ (q : Addr) (m : Nat) (ds : List (List Key × D)) (kk : List Key), d1 = .ptr q ∧ d2 = tkD kk ∧ μ2[m]? = some (q, MO.dt ds) ∧ ds.length < 1000000 ∧ E.nx ρ (μ2.set m (q, .dt (putD ds kk d))))
    (hs : swapsWith e (some (.Subscript o k q0)) pos.line X.env = pure false := by rfl) : wS X (.Assign [.Subscript o k q0] e pos) ρ μ E := fun F σ H hh sl D kt =>
  ss_of (ps_dput hu pe_s pe_s pe_s hs) (h F σ H hh sl _ fun v F0 H0 d μ0 h0 e0 hs0 r0 => binW (R := fun x y H2 => ∃ a H4, x = .ref a ∧ DPut H2 a y v H4 ∧ D.nx σ H4) h0 hs0 (sl.mono e0) fun x y F2 H2 d1 d2 μ2 ⟨q, m, ds, kk, h1, h2, hm, hz, z⟩ e hs2 r1 r2 => by
    subst h1
    subst h2
    cases r1
    obtain ⟨b, rfl, hb⟩ := rep_tk r2
    obtain ⟨kvs, g, rk⟩ := hs2.dt hm
    have hz' : kvs.length < sizeLine := Nat.lt_trans (by rw [← rk.len]; exact hz) (show 1000000 < sizeLine by decide)
    exact ⟨q, _, rfl, DPut.t g (hs2.ex _ _ hb) hz', kt.nx F2 _ σ ρ _ z (e0.trans e) (hs2.write hm (.dt (rk.put (r0.mono e)))) (sl.mono (e0.trans e))⟩)
theorem w_tin (hu : X.c.A.units + 1 < cLine) (h : wE X k ρ μ fun d2 μ1 => wE X o ρ μ1 fun d1 μ2 => ∃ (q : Addr) (m : Nat) (ds : List (List Key × D)) (kk : List Key), d1 = .ptr q ∧ d2 = tkD kk ∧ μ2[m]? = some (q, MO.dt ds) ∧ Φ (.bl (valD ds kk).isSome) μ2) (hm : behindInMarks .In o = false := by rfl) : wE X (.Compare k [.In] [o] pos) ρ μ Φ := fun F σ H hh sl Q kt =>
  se_of (pe_cmp (pc_din hu pe_s pe_s) hm) (binW h hh sl fun y x F2 H2 d2 d1 μ2 ⟨q, m, ds, kk, h1, h2, hm, z⟩ e hs2 r2 r1 => by
    subst h1
    subst h2
    cases r1
    obtain ⟨b, rfl, hb⟩ := rep_tk r2
    obtain ⟨kvs, g, rk⟩ := hs2.dt hm
    refine ⟨q, _, rfl, DGet.t g (hs2.ex _ _ hb), ?_⟩
    rw [← (rk.val kk).2]
    exact kt _ _ _ _ _ z e hs2 (.bl _))
theorem w_tnin (hu : X.c.A.units + 1 < cLine) (h : wE X k ρ μ fun d2 μ1 => wE X o ρ μ1 fun d1 μ2 => ∃ (q : Addr) (m : Nat) (ds : List (List Key × D)) (kk : List Key), d1 = .ptr q ∧ d2 = tkD kk ∧ μ2[m]? = some (q, MO.dt ds) ∧ Φ (.bl (!(valD ds kk).isSome)) μ2) (hm : behindInMarks .NotIn o = false := by rfl) : wE X (.Compare k [.NotIn] [o] pos) ρ μ Φ := fun F σ H hh sl Q kt =>
  se_of (pe_cmp (pc_dnotin hu pe_s pe_s) hm) (binW h hh sl fun y x F2 H2 d2 d1 μ2 ⟨q, m, ds, kk, h1, h2, hm, z⟩ e hs2 r2 r1 => by
    subst h1
    subst h2
    cases r1
    obtain ⟨b, rfl, hb⟩ := rep_tk r2
    obtain ⟨kvs, g, rk⟩ := hs2.dt hm
    refine ⟨q, _, rfl, DGet.t g (hs2.ex _ _ hb), ?_⟩
    rw [← (rk.val kk).2]
    exact kt _ _ _ _ _ z e hs2 (.bl _))
theorem wt_tin (hu : X.c.A.units + 1 < cLine) (h : wE X k ρ μ fun d2 μ1 => wE X o ρ μ1 fun d1 μ2 => ∃ (q : Addr) (m : Nat) (ds : List (List Key × D)) (kk : List Key), d1 = .ptr q ∧ d2 = tkD kk ∧ μ2[m]? = some (q, MO.dt ds) ∧ ΦT (valD ds kk).isSome μ2) (hm : behindInMarks .In o = false := by rfl) : wT X (.Compare k [.In] [o] pos) ρ μ ΦT := fun F σ H hh sl Q kt =>
  st_of (pt_cmp (pc_din hu pe_s pe_s) hm) (binW h hh sl fun y x F2 H2 d2 d1 μ2 ⟨q, m, ds, kk, h1, h2, hm, z⟩ e hs2 r2 r1 => by
    subst h1
    subst h2
    cases r1
    obtain ⟨b, rfl, hb⟩ := rep_tk r2
    obtain ⟨kvs, g, rk⟩ := hs2.dt hm
    refine ⟨q, _, rfl, DGet.t g (hs2.ex _ _ hb), ?_⟩
    rw [← (rk.val kk).2]
    exact ⟨_, rfl, kt _ _ _ _ z e hs2⟩)
theorem wt_tnin (hu : X.c.A.units + 1 < cLine) (h : wE X k ρ μ fun d2 μ1 => wE X o ρ μ1 fun d1 μ2 => ∃ (q : Addr) (m : Nat) (ds : List (List Key × D)) (kk : List Key), d1 = .ptr q ∧ d2 = tkD kk ∧ μ2[m]? = some (q, MO.dt ds) ∧ ΦT (!(valD ds kk).isSome) μ2) (hm : behindInMarks .NotIn o = false := by rfl) : wT X (.Compare k [.NotIn] [o] pos) ρ μ ΦT := fun F σ H hh sl Q kt =>
  st_of (pt_cmp (pc_dnotin hu pe_s pe_s) hm) (binW h hh sl fun y x F2 H2 d2 d1 μ2 ⟨q, m, ds, kk, h1, h2, hm, z⟩ e hs2 r2 r1 => by
    subst h1
    subst h2
    cases r1
    obtain ⟨b, rfl, hb⟩ := rep_tk r2
    obtain ⟨kvs, g, rk⟩ := hs2.dt hm
    refine ⟨q, _, rfl, DGet.t g (hs2.ex _ _ hb), ?_⟩
    rw [← (rk.val kk).2]
    exact ⟨_, rfl, kt _ _ _ _ z e hs2⟩)
/-- d.get(k, x) -/
theorem w_tget2 (hu : X.c.A.units + 1 < cLine) (h : wE X o ρ μ fun d1 μ1 => ∃ (q : Addr), d1 = .ptr q ∧ (∃ (m : Nat) (ds : List (List Key × D)), μ1[m]? = some (q, MO.dt ds)) ∧ wE X e ρ μ1 fun d2 μ2 => wE X f ρ μ2 fun d3 μ3 => ∃ (m : Nat) (ds : List (List Key × D)) (kk : List Key), d2 = tkD kk ∧ μ3[m]? = some (q, MO.dt ds) ∧ Φ ((valD ds kk).getD d3) μ3)
    (m : M2 X o "get" apos e f cpos := by exact ⟨rfl, rfl, rfl, rfl⟩) : wE X (.Call (.Attribute o "get" apos) [e, f] [] cpos) ρ μ Φ := fun F σ H hh sl Q kt =>
  se_of (pe_dget2 hu pe_s pe_s pe_s m) (h F σ H hh sl _ fun x F1 H1 d1 μ1 ⟨q, h1, ⟨m1, ds1, hm1⟩, z⟩ e1 hs1 r1 => by
    subst h1
    cases r1
    obtain ⟨kvs1, g1, _⟩ := hs1.dt hm1
    refine ⟨q, rfl, .inr ⟨_, .inl g1⟩, z F1 σ H1 hs1 (sl.mono e1) _ fun y F2 H2 d2 μ2 z2 e2 hs2 r2 => z2 F2 σ H2 hs2 (sl.mono (e1.trans e2)) _ fun u F3 H3 d3 μ3 ⟨m, ds, kk, h2, hm, z3⟩ e3 hs3 r3 => ?_⟩
    subst h2
    obtain ⟨b, rfl, hb⟩ := rep_tk (r2.mono e3)
    obtain ⟨kvs, g, rk⟩ := hs3.dt hm
    refine ⟨_, DGet.t g (hs3.ex _ _ hb), ?_⟩
    cases hv : valD ds kk with
    | none =>
      have e0 : valV kvs kk = none := by
        have := (rk.val kk).2
        rw [hv] at this
        cases h5 : valV kvs kk with
        | none => rfl
        | some v => rw [h5] at this; cases this
      rw [e0]
      rw [hv] at z3
      exact kt _ _ _ _ _ z3 (e1.trans (e2.trans e3)) hs3 r3
    | some d =>
      obtain ⟨v, hv2, rv⟩ := (rk.val kk).1 d hv
      rw [hv2]
      rw [hv] at z3
      exact kt _ _ _ _ _ z3 (e1.trans (e2.trans e3)) hs3 rv)
/-- d.get(k) -/
theorem w_tget1 (hu : X.c.A.units + 1 < cLine) (h : wE X o ρ μ fun d1 μ1 => ∃ (q : Addr), d1 = .ptr q ∧ (∃ (m : Nat) (ds : List (List Key × D)), μ1[m]? = some (q, MO.dt ds)) ∧ wE X e ρ μ1 fun d2 μ3 => ∃ (m : Nat) (ds : List (List Key × D)) (kk : List Key), d2 = tkD kk ∧ μ3[m]? = some (q, MO.dt ds) ∧ Φ ((valD ds kk).getD .non) μ3)
    (m : M1 X o "get" apos e cpos := by exact ⟨rfl, rfl, rfl, rfl⟩) : wE X (.Call (.Attribute o "get" apos) [e] [] cpos) ρ μ Φ := fun F σ H hh sl Q kt =>
  se_of (pe_dget1 hu pe_s pe_s m) (h F σ H hh sl _ fun x F1 H1 d1 μ1 ⟨q, h1, ⟨m1, ds1, hm1⟩, z⟩ e1 hs1 r1 => by
    subst h1
    cases r1
    obtain ⟨kvs1, g1, _⟩ := hs1.dt hm1
    refine ⟨q, rfl, .inr ⟨_, .inl g1⟩, z F1 σ H1 hs1 (sl.mono e1) _ fun y F3 H3 d2 μ3 ⟨m, ds, kk, h2, hm, z3⟩ e3 hs3 r2 => ?_⟩
    subst h2
    obtain ⟨b, rfl, hb⟩ := rep_tk r2
    obtain ⟨kvs, g, rk⟩ := hs3.dt hm
    refine ⟨_, DGet.t g (hs3.ex _ _ hb), ?_⟩
    cases hv : valD ds kk with
    | none =>
      have e0 : valV kvs kk = none := by
        have := (rk.val kk).2
        rw [hv] at this
        cases h5 : valV kvs kk with
        | none => rfl
        | some v => rw [h5] at this; cases this
      rw [e0]
      rw [hv] at z3
      exact kt _ _ _ _ _ z3 (e1.trans e3) hs3 .non
    | some d =>
      obtain ⟨v, hv2, rv⟩ := (rk.val kk).1 d hv
      rw [hv2]
      rw [hv] at z3
      exact kt _ _ _ _ _ z3 (e1.trans e3) hs3 rv)
end
/-! {(..): v}: a display of one pair -/
def tDispT (tk tv : TE) : TE := fun σ H Q => ∀ p, H p = none → tk σ (upd H p (.dT [])) fun x H1 => tv σ H1 fun y H2 => ∃ x' y', [(x, y)] = [(x', y')] ∧ H2 p = some (.dT []) ∧ ∃ b k, x' = .ref b ∧ H2 b = some (.tup (k.map kV)) ∧ Q (.ref p) (upd H2 p (.dT [(k, y')]))
theorem pe_dispT {X : Cy} {pos : Pos} {k v : Expr} {tk tv : TE} (hu : X.c.A.units + 1 < cLine) (hk : PE X k tk) (hv : PE X v tv) : PE X (.Dict [some k] [v] pos) (tDispT tk tv) := by
  refine ⟨fun pins s σ H Q I q => ?_⟩
  have hn := I.hok.fresh (Nat.le_refl s.heap.objs.size)
  have I1 := I.laid (a := s.heap.objs.size) (o := .dT []) (h' := s.heap.push { cls := .type "dict", data := .dict #[] }) (t' := s.toks) (fun _ _ q => Heap.get?_push_of_some _ q) (Nat.le_refl _) (dt_empty s.heap I.big)
  rw [arm_eval_Dict, zip_pairTrees [some k] [v] X.env pos rfl rfl, dictDisplay_pairs (pairTrees [some k] [v] X.env pos) (by simp [pairTrees]) (by simp [pairTrees])]
  have hp := (pps_cons (pos := pos) hk hv pps_nil).run pins _ σ _ (fun ps H2 => ∃ x y, ps = [(x, y)] ∧ H2 s.heap.objs.size = some (.dT []) ∧ ∃ b k, x = .ref b ∧ H2 b = some (.tup (k.map kV)) ∧ Q (.ref s.heap.objs.size) (upd H2 s.heap.objs.size (.dT [(k, y)]))) I1 ?_
  · refine wpAny_bind (wpAny_standAt (wpAny_bind (wpAny_subDictH (knd := tupleKind (mixKind X.prog X.w)) (show X.c.A.units < cLine by omega) (by simp [pairTrees]) (thn hp fun ws s2 ⟨ps, H2, I2, rel, x, y, hps, e, b, kk, hx, hb, q2⟩ => ?_))))
    subst hps hx
    obtain ⟨z, hd, xs0, r0, dd⟩ := dt_of I2.hok e
    cases r0
    cases rel with
    | @cons _ pr _ _ h t =>
      cases t
      obtain ⟨ku, vu⟩ := pr
      obtain ⟨hku, hvu⟩ := h
      cases (show ku = Value.ref b from hku)
      refine ⟨[(kk, b, vu)], ⟨rfl, rfl, key_of I2.hok hb, trivial⟩, dd, fun h' tk dd' hs => wpAny_pure ⟨.ref s.heap.objs.size, _, ?_, rfl, q2⟩⟩
      obtain ⟨q, es, ep, hq, h2, h3, h4, h6, h5⟩ := dd'
      refine d_write I2 (by rw [e]; exact True.intro) hs ⟨q, hq⟩ ⟨by show (1 : Nat) ≤ sizeLine; decide, hd, [(kk, b, vu)], .cons ⟨rfl, ?_, hvu⟩ .nil, q, es, ep, hq, h2, h3, h4, h5⟩
      rw [upd_ne (ne_of hb e (fun z => nomatch z))]
      exact hb
  · exact q _ hn
theorem w_dispT {X : Cy} {k e : Expr} {ρ : Rho} {μ : Mu} {Φ : D → Mu → Prop} {pos : Pos} (hu : X.c.A.units + 1 < cLine) (h : ∀ q, wE X k ρ ((q, .dt []) :: μ) fun d1 μ1 => wE X e ρ μ1 fun d2 μ2 => ∃ (kk : List Key) (μ3 : Mu), d1 = tkD kk ∧ μ2 = (q, MO.dt []) :: μ3 ∧ Φ (.ptr q) ((q, MO.dt [(kk, d2)]) :: μ3)) : wE X (.Dict [some k] [e] pos) ρ μ Φ := fun F σ H hh sl Q kt =>
  se_of (pe_dispT hu pe_s pe_s) fun q hq => h q F σ _ (hh.cell hq (.dt .nil)) sl _ fun x F1 H1 d1 μ1 z1 e1 hs1 r1 => z1 F1 σ H1 hs1 (sl.mono e1) _ fun y F2 H2 d2 μ2 ⟨kk, μ3, h1, h2, z⟩ e2 hs2 r2 => by
    subst h1
    subst h2
    obtain ⟨b, rfl, hb⟩ := rep_tk (r1.mono e2)
    obtain ⟨kvs0, g, rk0⟩ := hs2.dt (i := 0) rfl
    cases rk0
    exact ⟨_, _, rfl, g, b, kk, rfl, hs2.ex _ _ hb, kt _ F2 _ _ _ z (e1.trans e2) (hs2.write (i := 0) rfl (.dt (.cons ⟨rfl, r2⟩ .nil))) (.ptr q)⟩
section
variable {X : Cy} {μ : Mu} {Φ : D → Mu → Prop}
theorem c_anyL {bs : List Bool} (k : Φ (.bl (bs.any id)) μ) (hc : X.calm = true := by rfl) : wCl X (.builtin "any") [.lst (bs.map D.bl)] μ Φ := wcl_of (cr_any hc) fun F H xs hs r1 Q kt => by
  cases r1 with
  | cons r rr =>
    cases rr
    cases r with
    | lst g r =>
      rw [reps_bools r] at g
      exact ⟨_, bs, rfl, Evl.sq_of (hs.ex _ _ g), kt.now k hs (.bl _)⟩
theorem c_allL {bs : List Bool} (k : Φ (.bl (bs.all id)) μ) (hc : X.calm = true := by rfl) : wCl X (.builtin "all") [.lst (bs.map D.bl)] μ Φ := wcl_of (cr_all hc) fun F H xs hs r1 Q kt => by
  cases r1 with
  | cons r rr =>
    cases rr
    cases r with
    | lst g r =>
      rw [reps_bools r] at g
      exact ⟨_, bs, rfl, Evl.sq_of (hs.ex _ _ g), kt.now k hs (.bl _)⟩
end
/-! what a dict holds -/
section
variable {κ : Type} [DecidableEq κ]
theorem valD_any (k : κ) : ∀ ds : List (κ × D), (ds.any fun kv => decide (kv.1 = k)) = (valD ds k).isSome
  | [] => rfl
  | p :: r => by
    by_cases e : p.1 = k
    · obtain ⟨a, b⟩ := p
      cases e
      rw [valD_pos, List.any_cons]
      simp
    · rw [valD_neg e, List.any_cons, valD_any k r]
      simp [e]
theorem putD_new {ds : List (κ × D)} {k : κ} {d : D} (h : valD ds k = none) : putD ds k d = ds ++ [(k, d)] := by
  unfold putD
  rw [valD_any, h]
  rfl
/-- a table written out -/
theorem valD_some {α : Type} {f : α → κ} {g : α → D} {d : D} {k : κ} : ∀ {l : List α}, (∃ a ∈ l, f a = k) → (∀ a ∈ l, f a = k → g a = d) → valD (l.map fun a => (f a, g a)) k = some d
  | [], h, _ => by obtain ⟨a, ha, _⟩ := h; cases ha
  | a :: l, h, hu => by
    rw [List.map_cons]
    by_cases e : f a = k
    · have := hu a List.mem_cons_self e
      subst e
      rw [valD_pos, this]
    · rw [valD_neg e]
      obtain ⟨b, hb, e2⟩ := h
      rcases List.mem_cons.mp hb with rfl | hb
      · exact absurd e2 e
      · exact valD_some ⟨b, hb, e2⟩ fun c hc => hu c (List.mem_cons_of_mem _ hc)
theorem valD_none {α : Type} {f : α → κ} {g : α → D} {k : κ} : ∀ {l : List α}, (∀ a ∈ l, f a ≠ k) → valD (l.map fun a => (f a, g a)) k = none
  | [], _ => rfl
  | a :: l, h => by
    rw [List.map_cons, valD_neg (h a List.mem_cons_self)]
    exact valD_none fun b hb => h b (List.mem_cons_of_mem _ hb)
end
theorem filter_next {α : Type} {l : List α} {i : Nat} {x : α} (h : l[i]? = some x) : l.take (i + 1) = l.take i ++ [x] := by rw [List.take_add_one, h]; rfl
theorem fm_yes {α β : Type} {f : α → Bool} {g : α → β} {l : List α} {t : Nat} {x : α} (h : l[t]? = some x) (hb : f x = true) : ((l.take t).filter f).map g ++ [g x] = ((l.take (t + 1)).filter f).map g := by
  rw [filter_next h, List.filter_append, List.map_append, List.filter_cons, if_pos hb]
  rfl
theorem fm_no {α β : Type} {f : α → Bool} {g : α → β} {l : List α} {t : Nat} {x : α} (h : l[t]? = some x) (hb : f x = false) : ((l.take t).filter f).map g = ((l.take (t + 1)).filter f).map g := by
  rw [filter_next h, List.filter_append, List.map_append, List.filter_cons, if_neg (by rw [hb]; exact Bool.false_ne_true)]
  exact (List.append_nil _).symm
theorem tm_next {α β : Type} {g : α → β} {l : List α} {t : Nat} {x : α} (h : l[t]? = some x) : (l.take t).map g ++ [g x] = (l.take (t + 1)).map g := by
  rw [filter_next h, List.map_append]
  rfl
theorem filt_head {α : Type} (f : α → Bool) (l : List α) : (l.filter f).head? = l.find? f := by
  induction l with
  | nil => rfl
  | cons a l ih =>
    by_cases h : f a = true
    · simp [h]
    · simp [h, ih]
theorem nodup_le : ∀ (n : Nat) (l : List Nat), l.Nodup → (∀ x ∈ l, x < n) → l.length ≤ n
  | 0, l, _, h => by
    cases l with
    | nil => exact Nat.le_refl _
    | cons x l => exact absurd (h x List.mem_cons_self) (Nat.not_lt_zero _)
  | n + 1, l, hd, h => by
    by_cases hn : n ∈ l
    · have h1 := nodup_le n (l.erase n) (hd.erase n) fun x hx => by
        have h2 := (List.Nodup.mem_erase_iff hd).mp hx
        have := h x h2.2
        omega
      rw [List.length_erase_of_mem hn] at h1
      omega
    · have h1 := nodup_le n l hd fun x hx => by
        have := h x hx
        have : x ≠ n := fun e => hn (e ▸ hx)
        omega
      omega
theorem nodup_map {α β : Type} {f : α → β} : ∀ {l : List α}, (∀ x ∈ l, ∀ y ∈ l, f x = f y → x = y) → l.Nodup → (l.map f).Nodup
  | [], _, _ => List.nodup_nil
  | a :: l, h, hn => by
    rw [List.map_cons, List.nodup_cons]
    have hn2 := List.nodup_cons.mp hn
    refine ⟨fun z => ?_, nodup_map (fun x hx y hy => h x (List.mem_cons_of_mem _ hx) y (List.mem_cons_of_mem _ hy)) hn2.2⟩
    obtain ⟨b, hb, e⟩ := List.mem_map.mp z
    have := h b (List.mem_cons_of_mem _ hb) a List.mem_cons_self e
    exact hn2.1 (this ▸ hb)
/-- distinct pairs of numbers below n -/
theorem pairs_le {n : Nat} {l : List (Nat × Nat)} (hd : l.Nodup) (h : ∀ p ∈ l, p.1 < n ∧ p.2 < n) : l.length ≤ n * n := by
  have h1 := nodup_le (n * n) (l.map fun p => p.1 * n + p.2) (nodup_map (fun x hx y hy e => ?_) hd) fun x hx => ?_
  · rwa [List.length_map] at h1
  · obtain ⟨a1, a2⟩ := h x hx
    obtain ⟨b1, b2⟩ := h y hy
    have e : x.1 * n + x.2 = y.1 * n + y.2 := e
    have e1 : x.1 = y.1 := by
      have h1 : (x.1 * n + x.2) / n = x.1 := by rw [Nat.mul_comm, Nat.mul_add_div (by omega), Nat.div_eq_of_lt a2, Nat.add_zero]
      have h2 : (y.1 * n + y.2) / n = y.1 := by rw [Nat.mul_comm, Nat.mul_add_div (by omega), Nat.div_eq_of_lt b2, Nat.add_zero]
      rw [← h1, e, h2]
    rw [e1] at e
    exact Prod.ext e1 (by omega)
  · obtain ⟨p, hp, rfl⟩ := List.mem_map.mp hx
    obtain ⟨a1, a2⟩ := h p hp
    show p.1 * n + p.2 < n * n
    have : (p.1 + 1) * n ≤ n * n := Nat.mul_le_mul_right n a1
    rw [Nat.add_mul] at this
    omega
end Oc

/-! Own layer: cells in another order, dicts that stand still, pairs sorted, setdefault. -/
namespace Oc
open PySem PySem.Spec L2
open Evl (Ex)
section
variable {K : PySem.W.Frag} {F H : Hp} {μ μ' : Mu}
theorem repK_split : ∀ {ds : List (List Key × D)} {kvs : List (List Key × V)}, RepK K F ds kvs → kvs.map (·.1) = ds.map (·.1) ∧ Reps K F (kvs.map (·.2)) (ds.map (·.2))
  | [], [], .nil => ⟨rfl, .nil⟩
  | _ :: _, _ :: _, .cons h t => ⟨by rw [List.map_cons, List.map_cons, (repK_split t).1, h.1], .cons h.2 (repK_split t).2⟩
theorem Hs.perm {K : KF} (h : Hs K F μ H) (p : μ'.Perm μ) : Hs K F μ' H := ⟨h.ex, (p.map (·.1)).nodup_iff.mpr h.nd, fun a o q => h.mu a o (p.mem_iff.mp q), h.gr⟩
end
section
variable {X : Cy} {e o k f : Expr} {sts : List Stmt} {ρ : Rho} {μ : Mu} {Φ : D → Mu → Prop} {ΦT : Bool → Mu → Prop} {E : En} {pos apos cpos : Pos}
/-- cells in another order -/
theorem w_pm (h : wE X e ρ μ fun d μ1 => ∃ μ2, μ2.Perm μ1 ∧ Φ d μ2) : wE X e ρ μ Φ := fun F σ H hs sl Q kt => h F σ H hs sl Q fun v F1 H1 d μ1 ⟨μ2, s, q⟩ x hs1 r => kt v F1 H1 d μ2 q x (hs1.perm s) r
theorem wSs_pm {μ' : Mu} (p : μ'.Perm μ) (h : wSs X sts ρ μ' E) : wSs X sts ρ μ E := fun F σ H hs sl D kt => h F σ H (hs.perm p) sl D kt
/-- a dict is changed no more: cell i, which slot j names -/
theorem wSs_fzD {i j : Nat} {q : Addr} {ds : List (List Key × D)} (hi : μ[i]? = some (q, .dt ds)) (hj : ρ[j]? = some (some (.ptr q))) (h : wSs X sts (ρ.set j (some (.dct (ds.map (·.1)) (ds.map (·.2))))) (μ.eraseIdx i) E) : wSs X sts ρ μ E := fun F σ H hs sl D kt pins s I => by
  obtain ⟨kvs, g, rk⟩ := hs.dt hi
  obtain ⟨hF, _⟩ := hs.at_ hi
  obtain ⟨od, I2⟩ := I.lock g (show Mut (some (.dT kvs)) from True.intro)
  have hsub := hs.sub (List.eraseIdx_sublist μ i)
  have hn : ∀ o, (q, o) ∉ μ.eraseIdx i := fun o z => by
    obtain ⟨j, hj, ne⟩ := List.mem_eraseIdx_iff_getElem?.mp z
    exact hj (nodup_get hs.nd ne hi)
  have hs2 : Hs X.K F (μ.eraseIdx i) (upd H q (.frz od (.dT kvs))) := ⟨fun a o z => by
      rw [upd_ne (ne_of_none z hF)]
      exact hs.ex a o z, hsub.nd, fun a o z => by
      obtain ⟨h1, u, h2, h3⟩ := hsub.mu a o z
      exact ⟨h1, u, by rw [upd_ne (fun e => by subst e; exact hn o z)]; exact h2, h3⟩, hs.gr⟩
  obtain ⟨hs3, e3⟩ := hs2.still hF upd_same hn
  obtain ⟨v, hv, rv⟩ := sl.at_ j _ hj
  cases rv
  obtain ⟨k1, k2⟩ := repK_split rk
  have r1 : Rep X.K (upd F q (.frz od (.dT kvs))) (.ref q) (.dct (ds.map (·.1)) (ds.map (·.2))) := .dct upd_same k1 (k2.mono e3)
  have e2 : σ.set j (some (V.ref q)) = σ := by
    apply List.ext_getElem?
    intro k
    by_cases hk : j = k
    · subst hk
      rw [List.getElem?_set_self (List.getElem?_eq_some_iff.mp hv).1, hv]
    · rw [List.getElem?_set_ne hk]
  have sl1 := (sl.mono e3).set j r1
  rw [e2] at sl1
  exact h _ σ _ hs3 sl1 D (kt.mono e3) pins s I2
/-- what a still dict holds -/
def valZ (ks : List (List Key)) (vs : List D) (k : List Key) : Option D := valD (ks.zip vs) k
theorem zip_rep {K : PySem.W.Frag} {F : Hp} : ∀ {kvs : List (List Key × V)} {ks : List (List Key)} {vs : List D}, kvs.map (·.1) = ks → Reps K F (kvs.map (·.2)) vs → RepK K F (ks.zip vs) kvs
  | [], _, _, rfl, .nil => .nil
  | (k, v) :: kvs, _, _, rfl, .cons r rr => .cons ⟨rfl, r⟩ (zip_rep rfl rr)
theorem valZ_map {α : Type} {f : α → List Key} {g : α → D} (l : List α) (k : List Key) : valZ ((l.map fun a => (f a, g a)).map (·.1)) ((l.map fun a => (f a, g a)).map (·.2)) k = valD (l.map fun a => (f a, g a)) k := by
  unfold valZ
  congr 1
  induction l with
  | nil => rfl
  | cons a l ih => rw [List.map_cons, List.map_cons, List.map_cons, List.zip_cons_cons, ih]
theorem dget_z {K : PySem.W.Frag} {F H : Hp} (ex : Ex F H) {v : V} {b : Addr} {ks : List (List Key)} {vs : List D} {kk : List Key} (r : Rep K F v (.dct ks vs)) (hb : F b = some (.tup (kk.map kV))) :
    ∃ q o, v = .ref q ∧ IsD H q ∧ DGet H q (.ref b) o ∧ o.isSome = (valZ ks vs kk).isSome ∧ (∀ d, valZ ks vs kk = some d → ∃ u, o = some u ∧ Rep K F u d) := by
  cases r with
  | dct g hk rv =>
    have rk := zip_rep hk rv
    refine ⟨_, _, rfl, .inr ⟨_, .inr ⟨_, ex _ _ g⟩⟩, .inr ⟨_, kk, b, .inr ⟨_, ex _ _ g⟩, rfl, ex _ _ hb, rfl⟩, (rk.val kk).2.symm, fun d hd => (rk.val kk).1 d hd⟩
theorem w_zget (hu : X.c.A.units + 1 < cLine) (h : wE X o ρ μ fun d1 μ1 => wE X k ρ μ1 fun d2 μ2 => ∃ (ks : List (List Key)) (vs : List D) (kk : List Key) (d : D), d1 = .dct ks vs ∧ d2 = tkD kk ∧ valZ ks vs kk = some d ∧ Φ d μ2) (hs : NoSl k := by exact fun _ _ => rfl) : wE X (.Subscript o k pos) ρ μ Φ := fun F σ H hh sl Q kt =>
  se_of (pe_dget hu pe_s pe_s hs) (binW h hh sl fun x y F2 H2 d1 d2 μ2 ⟨ks, vs, kk, d, h1, h2, hv, z⟩ e hs2 r1 r2 => by
    subst h1
    subst h2
    obtain ⟨b, rfl, hb⟩ := rep_tk r2
    obtain ⟨q, o, rfl, _, dg, _, hsome⟩ := dget_z hs2.ex r1 hb
    obtain ⟨u, rfl, ru⟩ := hsome d hv
    exact ⟨q, u, rfl, dg, kt _ _ _ _ _ z e hs2 ru⟩)
theorem w_zin (hu : X.c.A.units + 1 < cLine) (h : wE X k ρ μ fun d2 μ1 => wE X o ρ μ1 fun d1 μ2 => ∃ (ks : List (List Key)) (vs : List D) (kk : List Key), d1 = .dct ks vs ∧ d2 = tkD kk ∧ Φ (.bl (valZ ks vs kk).isSome) μ2) (hm : behindInMarks .In o = false := by rfl) : wE X (.Compare k [.In] [o] pos) ρ μ Φ := fun F σ H hh sl Q kt =>
  se_of (pe_cmp (pc_din hu pe_s pe_s) hm) (binW h hh sl fun y x F2 H2 d2 d1 μ2 ⟨ks, vs, kk, h1, h2, z⟩ e hs2 r2 r1 => by
    subst h1
    subst h2
    obtain ⟨b, rfl, hb⟩ := rep_tk r2
    obtain ⟨q, o, rfl, _, dg, hi, _⟩ := dget_z hs2.ex r1 hb
    refine ⟨q, _, rfl, dg, ?_⟩
    rw [hi]
    exact kt _ _ _ _ _ z e hs2 (.bl _))
theorem w_znin (hu : X.c.A.units + 1 < cLine) (h : wE X k ρ μ fun d2 μ1 => wE X o ρ μ1 fun d1 μ2 => ∃ (ks : List (List Key)) (vs : List D) (kk : List Key), d1 = .dct ks vs ∧ d2 = tkD kk ∧ Φ (.bl (!(valZ ks vs kk).isSome)) μ2) (hm : behindInMarks .NotIn o = false := by rfl) : wE X (.Compare k [.NotIn] [o] pos) ρ μ Φ := fun F σ H hh sl Q kt =>
  se_of (pe_cmp (pc_dnotin hu pe_s pe_s) hm) (binW h hh sl fun y x F2 H2 d2 d1 μ2 ⟨ks, vs, kk, h1, h2, z⟩ e hs2 r2 r1 => by
    subst h1
    subst h2
    obtain ⟨b, rfl, hb⟩ := rep_tk r2
    obtain ⟨q, o, rfl, _, dg, hi, _⟩ := dget_z hs2.ex r1 hb
    refine ⟨q, _, rfl, dg, ?_⟩
    rw [hi]
    exact kt _ _ _ _ _ z e hs2 (.bl _))
theorem wt_zin (hu : X.c.A.units + 1 < cLine) (h : wE X k ρ μ fun d2 μ1 => wE X o ρ μ1 fun d1 μ2 => ∃ (ks : List (List Key)) (vs : List D) (kk : List Key), d1 = .dct ks vs ∧ d2 = tkD kk ∧ ΦT (valZ ks vs kk).isSome μ2) (hm : behindInMarks .In o = false := by rfl) : wT X (.Compare k [.In] [o] pos) ρ μ ΦT := fun F σ H hh sl Q kt =>
  st_of (pt_cmp (pc_din hu pe_s pe_s) hm) (binW h hh sl fun y x F2 H2 d2 d1 μ2 ⟨ks, vs, kk, h1, h2, z⟩ e hs2 r2 r1 => by
    subst h1
    subst h2
    obtain ⟨b, rfl, hb⟩ := rep_tk r2
    obtain ⟨q, o, rfl, _, dg, hi, _⟩ := dget_z hs2.ex r1 hb
    refine ⟨q, _, rfl, dg, ?_⟩
    rw [hi]
    exact ⟨_, rfl, kt _ _ _ _ z e hs2⟩)
theorem wt_znin (hu : X.c.A.units + 1 < cLine) (h : wE X k ρ μ fun d2 μ1 => wE X o ρ μ1 fun d1 μ2 => ∃ (ks : List (List Key)) (vs : List D) (kk : List Key), d1 = .dct ks vs ∧ d2 = tkD kk ∧ ΦT (!(valZ ks vs kk).isSome) μ2) (hm : behindInMarks .NotIn o = false := by rfl) : wT X (.Compare k [.NotIn] [o] pos) ρ μ ΦT := fun F σ H hh sl Q kt =>
  st_of (pt_cmp (pc_dnotin hu pe_s pe_s) hm) (binW h hh sl fun y x F2 H2 d2 d1 μ2 ⟨ks, vs, kk, h1, h2, z⟩ e hs2 r2 r1 => by
    subst h1
    subst h2
    obtain ⟨b, rfl, hb⟩ := rep_tk r2
    obtain ⟨q, o, rfl, _, dg, hi, _⟩ := dget_z hs2.ex r1 hb
    refine ⟨q, _, rfl, dg, ?_⟩
    rw [hi]
    exact ⟨_, rfl, kt _ _ _ _ z e hs2⟩)
theorem reps_kV {K : PySem.W.Frag} {F : Hp} : ∀ ks : List Key, Reps K F (ks.map kV) (ks.map kD)
  | [] => .nil
  | .inl i :: ks => .cons (.int i) (reps_kV ks)
  | .inr x :: ks => .cons (.str x) (reps_kV ks)
/-- for k in d, d standing still -/
theorem wi_keysD {tg : Expr} {ΦI : List D → Mu → Prop} (h : wE X e ρ μ fun d μ1 => ∃ ks vs, d = .dct ks vs ∧ ΦI (ks.map tkD) μ1) : wI X tg e ρ μ ΦI := fun F σ H hs sl R kt =>
  si_of (pi_keys pe_s) (h F σ H hs sl _ fun v F1 H1 d μ1 ⟨ks, vs, hd, q⟩ e1 hs1 r1 => by
    subst hd
    cases r1 with
    | dct g hk r =>
      rename_i a o kvs
      refine ⟨a, o, rfl, .inr ⟨kvs, hs1.ex _ _ g, kt _ (ks.map tkD) F1 μ1 H1 q e1 hs1 fun i F' μ' H' e' hs' => ?_⟩⟩
      have g' := hs'.ex _ _ (e' _ _ g)
      have hl : kvs.length = ks.length := by rw [← hk, List.length_map]
      refine ⟨fun hi => ⟨g', by rw [hl]; rwa [List.length_map] at hi⟩, fun hi => ⟨g', by rw [hl]; rw [List.length_map] at hi; exact Nat.le_of_eq hi.symm⟩, fun x H2 d hy hd => ?_⟩
      obtain ⟨rfl, k, v, b, h1, rfl, hb⟩ := hy
      have hk2 : ks[i]? = some k := by rw [← hk, List.getElem?_map, h1]; rfl
      rw [List.getElem?_map, hk2] at hd
      cases hd
      cases hF : F' b with
      | some u =>
        have h3 := hs'.ex _ _ hF
        rw [hb] at h3
        cases h3
        exact ⟨F', Ex.refl _, hs', .tup hF (reps_kV k)⟩
      | none =>
        obtain ⟨g1, g2⟩ := hs'.still hF hb fun o z => by
          obtain ⟨_, u, h4, h5⟩ := hs'.mu _ _ z
          rw [hb] at h4
          cases h4
          cases h5
        exact ⟨_, g2, g1, .tup upd_same (reps_kV k)⟩)
/-- d.setdefault(k, x) -/
def tDSetdT (td ty tx : TE) : TE := fun σ H Q => td σ H fun x H1 => ∃ a, x = .ref a ∧ IsD H1 a ∧ ty σ H1 fun y H2 => tx σ H2 fun z H3 => ∃ (kvs : List (List Key × V)) (k : List Key) (b : Addr), H3 a = some (.dT kvs) ∧ y = .ref b ∧ H3 b = some (.tup (k.map kV)) ∧ kvs.length < sizeLine ∧
  (∀ v, valV kvs k = some v → Q v H3) ∧ (valV kvs k = none → Q z (upd H3 a (.dT (putK kvs k z))))
theorem pe_dsetdT {td ty tx : TE} (hu : X.c.A.units + 1 < cLine) (ho : PE X o td) (he : PE X e ty) (hf : PE X f tx) (m : M2 X o "setdefault" apos e f cpos) : PE X (.Call (.Attribute o "setdefault" apos) [e, f] [] cpos) (tDSetdT td ty tx) := by
  refine ⟨fun pins s σ H Q I h => ?_⟩
  refine wpAny_Call_method m.base m.few m.line PySem.F.plainAttrs_dict PySem.F.slot_dict_setdefault PySem.F.type_dict_setdefault (thn (ho.run pins s σ H _ I h) fun u s1 ⟨x, H1, I1, rx, a, ex, d, q1⟩ => ?_)
  subst ex
  obtain rfl : u = Value.ref a := rx
  obtain ⟨t1, t2, _⟩ := isD_at I1 d
  refine ⟨t1, t2, ?_⟩
  rw [m.trees]
  refine Calls.callWith_builtin rfl (Calls.evalArgs_plain (Calls.spliced_cons (thn (he.run pins s1 σ H1 _ I1 q1) fun iv s2 ⟨y, H2, I2, ry, q2⟩ =>
    Calls.spliced_cons (thn (hf.run pins s2 σ H2 _ I2 q2) fun fv s3 ⟨z, H3, I3, rz, kvs, k, b, ea, ey, eb, hl, q3, q4⟩ => Calls.spliced_nil ?_))))
  subst ey
  obtain rfl : iv = Value.ref b := ry
  obtain ⟨zz, hd, xs, rel, dd⟩ := dt_of I3.hok ea
  have hz : xs.length ≤ sizeLine := by rw [← Paired.length rel]; exact zz
  refine call_setdefault_heap (hsz := hz) (tupleKind_room_in1 hu) (key_of I3.hok eb) hd dd (fun p hp => ?_) fun hp h' dd' hs => ?_
  · have q := rel.val k
    rw [hp] at q
    cases q0 : valV kvs k with
    | none => rw [q0] at q; exact (show False from q).elim
    | some v0 =>
      rw [q0] at q
      exact ⟨v0, _, I3.tok _, q, q3 v0 q0⟩
  · have q := rel.val k
    rw [hp] at q
    cases q0 : valV kvs k with
    | some v0 => rw [q0] at q; exact (show False from q).elim
    | none =>
      have hl2 : (putK kvs k z).length ≤ sizeLine := by have := length_putK kvs k z; omega
      obtain ⟨qo, es, ep, hq, h2, h3, h4, _, h5⟩ := dd'
      refine ⟨z, _, d_write (ob := .dT (putK kvs k z)) I3 (by rw [ea]; exact True.intro) hs ⟨qo, hq⟩ ⟨hl2, hd, _, (rel.put k eb rz).keeps fun c ys ec => ?_, qo, es, ep, hq, h2, h3, h4, h5⟩, rz, q4 q0⟩
      rw [upd_ne (ne_of ec ea (fun z => nomatch z))]
      exact ec
theorem w_tsetd (hu : X.c.A.units + 1 < cLine) (h : wE X o ρ μ fun d1 μ1 => ∃ (q : Addr), d1 = .ptr q ∧ (∃ (m : Nat) (ds : List (List Key × D)), μ1[m]? = some (q, MO.dt ds)) ∧ wE X e ρ μ1 fun d2 μ2 => wE X f ρ μ2 fun d3 μ3 => ∃ (m : Nat) (ds : List (List Key × D)) (kk : List Key), d2 = tkD kk ∧ μ3[m]? = some (q, MO.dt ds) ∧ ds.length < 1000000 ∧
      (∀ d, valD ds kk = some d → Φ d μ3) ∧ (valD ds kk = none → Φ d3 (μ3.set m (q, .dt (putD ds kk d3)))))
    (m : M2 X o "setdefault" apos e f cpos := by exact ⟨rfl, rfl, rfl, rfl⟩) : wE X (.Call (.Attribute o "setdefault" apos) [e, f] [] cpos) ρ μ Φ := fun F σ H hh sl Q kt =>
  se_of (pe_dsetdT hu pe_s pe_s pe_s m) (h F σ H hh sl _ fun x F1 H1 d1 μ1 ⟨q, h1, ⟨m1, ds1, hm1⟩, z⟩ e1 hs1 r1 => by
    subst h1
    cases r1
    obtain ⟨kvs1, g1, _⟩ := hs1.dt hm1
    refine ⟨q, rfl, .inr ⟨_, .inl g1⟩, z F1 σ H1 hs1 (sl.mono e1) _ fun y F2 H2 d2 μ2 z2 e2 hs2 r2 => z2 F2 σ H2 hs2 (sl.mono (e1.trans e2)) _ fun u F3 H3 d3 μ3 ⟨m, ds, kk, h2, hm, hz, z3, z4⟩ e3 hs3 r3 => ?_⟩
    subst h2
    obtain ⟨b, rfl, hb⟩ := rep_tk (r2.mono e3)
    obtain ⟨kvs, g, rk⟩ := hs3.dt hm
    have hz' : kvs.length < sizeLine := Nat.lt_trans (by rw [← rk.len]; exact hz) (show 1000000 < sizeLine by decide)
    refine ⟨kvs, kk, b, g, rfl, hs3.ex _ _ hb, hz', fun v hv => ?_, fun hv => ?_⟩
    · have h6 := (rk.val kk).2
      rw [hv] at h6
      cases h7 : valD ds kk with
      | none => rw [h7] at h6; cases h6
      | some d =>
        obtain ⟨v', hv', rv⟩ := (rk.val kk).1 d h7
        rw [hv] at hv'
        cases hv'
        exact kt _ _ _ _ _ (z3 d h7) (e1.trans (e2.trans e3)) hs3 rv
    · have h6 := (rk.val kk).2
      rw [hv] at h6
      have h7 : valD ds kk = none := by
        cases h7 : valD ds kk with
        | none => rfl
        | some d => rw [h7] at h6; cases h6
      exact kt _ _ _ _ _ (z4 h7) (e1.trans (e2.trans e3)) (hs3.write hm (.dt (rk.put r3))) r3)
end
section
variable {X : Cy} {e o k f : Expr} {sts : List Stmt} {ρ : Rho} {μ : Mu} {Φ Ψ : D → Mu → Prop} {E : En} {pos apos cpos : Pos}
/-- d.get(k, x), d standing still -/
theorem w_zget2 (hu : X.c.A.units + 1 < cLine) (h : wE X o ρ μ fun d1 μ1 => ∃ (ks : List (List Key)) (vs : List D), d1 = .dct ks vs ∧ wE X e ρ μ1 fun d2 μ2 => wE X f ρ μ2 fun d3 μ3 => ∃ (kk : List Key), d2 = tkD kk ∧ Φ ((valZ ks vs kk).getD d3) μ3)
    (m : M2 X o "get" apos e f cpos := by exact ⟨rfl, rfl, rfl, rfl⟩) : wE X (.Call (.Attribute o "get" apos) [e, f] [] cpos) ρ μ Φ := fun F σ H hh sl Q kt =>
  se_of (pe_dget2 hu pe_s pe_s pe_s m) (h F σ H hh sl _ fun x F1 H1 d1 μ1 ⟨ks, vs, h1, z⟩ e1 hs1 r1 => by
    subst h1
    have r0 := r1
    cases r1 with
    | dct g hk rv =>
    rename_i a o kvs
    refine ⟨a, rfl, .inr ⟨_, .inr ⟨_, hs1.ex _ _ g⟩⟩, z F1 σ H1 hs1 (sl.mono e1) _ fun y F2 H2 d2 μ2 z2 e2 hs2 r2 => z2 F2 σ H2 hs2 (sl.mono (e1.trans e2)) _ fun u F3 H3 d3 μ3 ⟨kk, h2, z3⟩ e3 hs3 r3 => ?_⟩
    subst h2
    obtain ⟨b, rfl, hb⟩ := rep_tk (r2.mono e3)
    obtain ⟨q, o, hq, _, dg, hi, hsome⟩ := dget_z hs3.ex (r0.mono (e2.trans e3)) hb
    cases hq
    refine ⟨_, dg, ?_⟩
    cases hv : valZ ks vs kk with
    | none =>
      rw [hv] at hi z3
      cases o with
      | none => exact kt _ _ _ _ _ z3 (e1.trans (e2.trans e3)) hs3 r3
      | some u => cases hi
    | some d =>
      obtain ⟨v, rfl, rv⟩ := hsome d hv
      rw [hv] at z3
      exact kt _ _ _ _ _ z3 (e1.trans (e2.trans e3)) hs3 rv)
theorem w_zget1 (hu : X.c.A.units + 1 < cLine) (h : wE X o ρ μ fun d1 μ1 => ∃ (ks : List (List Key)) (vs : List D), d1 = .dct ks vs ∧ wE X e ρ μ1 fun d2 μ3 => ∃ (kk : List Key), d2 = tkD kk ∧ Φ ((valZ ks vs kk).getD .non) μ3)
    (m : M1 X o "get" apos e cpos := by exact ⟨rfl, rfl, rfl, rfl⟩) : wE X (.Call (.Attribute o "get" apos) [e] [] cpos) ρ μ Φ := fun F σ H hh sl Q kt =>
  se_of (pe_dget1 hu pe_s pe_s m) (h F σ H hh sl _ fun x F1 H1 d1 μ1 ⟨ks, vs, h1, z⟩ e1 hs1 r1 => by
    subst h1
    have r0 := r1
    cases r1 with
    | dct g hk rv =>
    rename_i a o kvs
    refine ⟨a, rfl, .inr ⟨_, .inr ⟨_, hs1.ex _ _ g⟩⟩, z F1 σ H1 hs1 (sl.mono e1) _ fun y F3 H3 d2 μ3 ⟨kk, h2, z3⟩ e3 hs3 r2 => ?_⟩
    subst h2
    obtain ⟨b, rfl, hb⟩ := rep_tk r2
    obtain ⟨q, o, hq, _, dg, hi, hsome⟩ := dget_z hs3.ex (r0.mono e3) hb
    cases hq
    refine ⟨_, dg, ?_⟩
    cases hv : valZ ks vs kk with
    | none =>
      rw [hv] at hi z3
      cases o with
      | none => exact kt _ _ _ _ _ z3 (e1.trans e3) hs3 .non
      | some u => cases hi
    | some d =>
      obtain ⟨v, rfl, rv⟩ := hsome d hv
      rw [hv] at z3
      exact kt _ _ _ _ _ z3 (e1.trans e3) hs3 rv)
/-! lists of lists: all cells frozen at once -/
theorem Hs.freezeL {K : KF} : ∀ (L : List (Addr × List D)) {F H : Hp} {μ : Mu}, Hs K F (L.map (fun e => (e.1, MO.lst e.2)) ++ μ) H → ∃ F', Ex F F' ∧ Hs K F' μ H ∧ ∀ e ∈ L, Rep K F' (.ref e.1) (.lst e.2)
  | [], F, H, μ, h => ⟨F, Ex.refl F, h, fun e he => (nomatch he)⟩
  | a :: L, F, H, μ, h => by
    obtain ⟨F1, e1, h1, r1⟩ := Hs.freeze h (i := 0) (p := a.1) (ds := a.2) rfl
    obtain ⟨F2, e2, h2, r2⟩ := Hs.freezeL L h1
    refine ⟨F2, e1.trans e2, h2, fun e he => ?_⟩
    rcases List.mem_cons.mp he with rfl | he
    · exact r1.mono e2
    · exact r2 e he
theorem reps_ptr {K : PySem.W.Frag} {F F' : Hp} : ∀ {L : List (Addr × List D)} {xs : List V}, Reps K F xs (L.map fun e => .ptr e.1) → (∀ e ∈ L, Rep K F' (.ref e.1) (.lst e.2)) → Reps K F' xs (L.map fun e => .lst e.2)
  | [], _, .nil, _ => .nil
  | e :: L, _, .cons r rr, h => by
    cases r
    exact .cons (h e List.mem_cons_self) (reps_ptr rr fun e he => h e (List.mem_cons_of_mem _ he))
/-- a list of lists stands still from now on -/
theorem w_fzT (h : wE X e ρ μ fun d μ1 => ∃ (t : Addr) (L : List (Addr × List D)) (μ2 : Mu), d = .ptr t ∧ ((t, MO.lst (L.map fun e => .ptr e.1)) :: (L.map (fun e => (e.1, MO.lst e.2)) ++ μ2)).Perm μ1 ∧ Φ (.lst (L.map fun e => .lst e.2)) μ2) : wE X e ρ μ Φ := fun F σ H hs sl Q kt => h F σ H hs sl Q fun v F1 H1 d μ1 ⟨t, L, μ2, hd, hp, q⟩ x hs1 r => by
  subst hd
  cases r
  obtain ⟨F2, e2, hs2, r2⟩ := Hs.freeze (hs1.perm hp) (i := 0) (p := t) rfl
  obtain ⟨F3, e3, hs3, r3⟩ := Hs.freezeL L hs2
  cases r2 with
  | lst g rr => exact kt _ F3 H1 _ μ2 q (x.trans (e2.trans e3)) hs3 (.lst (e3 _ _ g) (reps_ptr rr r3))
/-- the lists in a still dict, too -/
theorem wSs_fzV {j : Nat} {ks : List (List Key)} {L : List (Addr × List D)} {μ2 : Mu} (hj : ρ[j]? = some (some (.dct ks (L.map fun e => .ptr e.1)))) (hp : (L.map (fun e => (e.1, MO.lst e.2)) ++ μ2).Perm μ) (h : wSs X sts (ρ.set j (some (.dct ks (L.map fun e => .lst e.2)))) μ2 E) : wSs X sts ρ μ E := fun F σ H hs sl D kt => by
  obtain ⟨F3, e3, hs3, r3⟩ := Hs.freezeL L (hs.perm hp)
  obtain ⟨v, hv, rv⟩ := sl.at_ j _ hj
  have r1 : Rep X.K F3 v (.dct ks (L.map fun e => .lst e.2)) := by
    cases rv with
    | dct g hk rr => exact .dct (e3 _ _ g) hk (reps_ptr rr r3)
  have e2 : σ.set j (some v) = σ := by
    apply List.ext_getElem?
    intro k
    by_cases hk : j = k
    · subst hk
      rw [List.getElem?_set_self (List.getElem?_eq_some_iff.mp hv).1, hv]
    · rw [List.getElem?_set_ne hk]
  have sl1 := (sl.mono e3).set j r1
  rw [e2] at sl1
  exact h _ σ _ hs3 sl1 D (kt.mono e3)
end
/-! a list that may change, beside one that stands still -/
section
variable {X : Cy} {μ : Mu} {Φ : D → Mu → Prop}
theorem o_neP {q : Addr} {ds es : List D} {n k0 : Nat} (m : Nat) (hm : μ[m]? = some (q, MO.lst ds)) (hu : X.c.A.units + 64 < cLine) (h1 : Lys ds n) (h2 : Lys es k0) (k : Φ (.bl (!PyData.eqv (D.lst ds).py (D.lst es).py)) μ) (hn : n ≤ 60 := by decide) (hk : k0 ≤ 60 := by decide) : wOp X (compareOp .NotEq) (.ptr q) (.lst es) μ Φ := wop_of (op_neD hu) fun F H u v hs r1 r2 Q kt => by
  cases r1
  obtain ⟨xs, g, rx⟩ := hs.lst hm
  have e : (D.lst ds).py = .list (D.pys ds) := by simp only [D.py]
  have hp : Dp X.K H (.ref q) (D.lst ds).py := by rw [e]; exact .lst (Evl.sq_of g) (reps_py hs.ex rx h1.st)
  exact ⟨_, _, hp, rep_py hs.ex r2 (Ly.lst h2).st, (Ly.lst h1).shaped (by omega), (Ly.lst h2).shaped (by omega), kt.now k hs (.bl _)⟩
theorem o_eqP {q : Addr} {ds es : List D} {n k0 : Nat} (m : Nat) (hm : μ[m]? = some (q, MO.lst ds)) (hu : X.c.A.units + 64 < cLine) (h1 : Lys ds n) (h2 : Lys es k0) (k : Φ (.bl (PyData.eqv (D.lst ds).py (D.lst es).py)) μ) (hn : n ≤ 60 := by decide) (hk : k0 ≤ 60 := by decide) : wOp X (compareOp .Eq) (.ptr q) (.lst es) μ Φ := wop_of (op_eqD hu) fun F H u v hs r1 r2 Q kt => by
  cases r1
  obtain ⟨xs, g, rx⟩ := hs.lst hm
  have e : (D.lst ds).py = .list (D.pys ds) := by simp only [D.py]
  have hp : Dp X.K H (.ref q) (D.lst ds).py := by rw [e]; exact .lst (Evl.sq_of g) (reps_py hs.ex rx h1.st)
  exact ⟨_, _, hp, rep_py hs.ex r2 (Ly.lst h2).st, (Ly.lst h1).shaped (by omega), (Ly.lst h2).shaped (by omega), kt.now k hs (.bl _)⟩
end
/-! the last one; signs -/
section
variable {X : Cy} {μ : Mu} {Φ : D → Mu → Prop} {d : D}
theorem atI_last {α : Type} {l : List α} {x : α} : atI (l ++ [x]) (-1) = some x := by
  unfold atI ixN
  rw [if_neg (by decide), List.length_append]
  have h : -((l.length + [x].length : Nat) : Int) ≤ -1 := by show -((l.length + 1 : Nat) : Int) ≤ -1; omega
  rw [if_pos h]
  show (l ++ [x])[(-1 + ((l.length + 1 : Nat) : Int)).toNat]? = some x
  rw [show (-1 + ((l.length + 1 : Nat) : Int)).toNat = l.length by omega, List.getElem?_append_right (Nat.le_refl _), Nat.sub_self]
  rfl
theorem u_neg {i : Int} (k : Φ (.int (-i)) μ) : wUn X (unaryOp .USub) (.int i) μ Φ := fun F H u hs r Q kt pins s σ uu I rv => by
  cases r
  exact un_neg pins s σ H _ uu Q I rv ⟨i, rfl, kt.now k hs (.int _)⟩
theorem ix_ptrN {q : Addr} {ds l : List D} (m : Nat) (hm : μ[m]? = some (q, .lst ds)) (hd : ds = l ++ [d]) (k : Φ d μ) : wIx X (.ptr q) (.int (-1)) μ Φ := wix_of ix_list fun F H x y hs r1 r2 Q kt => by
  subst hd
  cases r2
  cases r1
  obtain ⟨xs, g, r⟩ := hs.lst hm
  have hsp : ∀ {xs : List V} {l : List D} {d : D}, Reps X.K F xs (l ++ [d]) → ∃ ys v, xs = ys ++ [v] ∧ Rep X.K F v d := fun {xs l d} r => by
    induction l generalizing xs with
    | nil =>
      cases r with
      | cons r rr => cases rr; exact ⟨[], _, rfl, r⟩
    | cons a l ih =>
      cases r with
      | cons r rr =>
        obtain ⟨ys, v, h1, h2⟩ := ih rr
        exact ⟨_ :: ys, v, by rw [h1]; rfl, h2⟩
  obtain ⟨ys, v, rfl, rv⟩ := hsp r
  exact ⟨_, _, _, v, rfl, rfl, Evl.sq_of g, atI_last, kt.now k hs rv⟩
end
/-! pairs sorted -/
abbrev natP (p : Nat × Nat) : D := .tup [.int p.1, .int p.2]
def leP (a b : Nat × Nat) : Prop := a.1 < b.1 ∨ (a.1 = b.1 ∧ a.2 ≤ b.2)
def pairV (H : Hp) : V → Int × Int
  | .ref t => match H t with
    | some (.tup [.int i, .int j]) => (i, j)
    | _ => (0, 0)
  | _ => (0, 0)
section
variable {X : Cy} {μ : Mu} {Φ : D → Mu → Prop} {d : D}
theorem c_sortedP {ps : List (Nat × Nat)} (hd : d = .lst (ps.map natP)) (k : ∀ ps' : List (Nat × Nat), ps'.Perm ps → ps'.Pairwise leP → Φ (.lst (ps'.map natP)) μ) : wCl X (.builtin "sorted") [d] μ Φ :=
  wcl_of cr_sortedPO fun F H vs hs r1 Q kt => by
  subst hd
  cases r1 with
  | cons r rr =>
    cases rr
    cases r with
    | lst g r =>
      rename_i a xs
      have at_ : ∀ {xs : List V} {ps : List (Nat × Nat)}, Reps X.K F xs (ps.map natP) → (∀ x ∈ xs, ∃ (t : Addr) (i j : Nat), x = .ref t ∧ F t = some (.tup [.int i, .int j])) ∧ xs.map (fun x => ((pairV H x).1.toNat, (pairV H x).2.toNat)) = ps := fun {xs ps} r => by
        induction ps generalizing xs with
        | nil => cases r; exact ⟨fun x hx => (nomatch hx), rfl⟩
        | cons p ps ih =>
          cases r with
          | cons r rr =>
            obtain ⟨h1, h2⟩ := ih rr
            cases r with
            | tup g q =>
              cases q with
              | cons q1 q =>
                cases q with
                | cons q2 q =>
                  cases q
                  cases q1
                  cases q2
                  refine ⟨fun x hx => ?_, ?_⟩
                  · rcases List.mem_cons.mp hx with rfl | hx
                    · exact ⟨_, _, _, rfl, g⟩
                    · exact h1 x hx
                  · rw [List.map_cons, h2]
                    congr 1
                    simp only [pairV, hs.ex _ _ g]
                    exact Prod.ext (by simp) (by simp)
      obtain ⟨h1, h2⟩ := at_ r
      have hat : ∀ x ∈ xs, ∃ (t : Addr) (i j : Nat), x = .ref t ∧ F t = some (.tup [.int i, .int j]) ∧ pairV H x = ((i : Int), (j : Int)) := fun x hx => by
        obtain ⟨t, i, j, rfl, ht⟩ := h1 x hx
        exact ⟨t, i, j, rfl, ht, by simp only [pairV, hs.ex _ _ ht]⟩
      refine ⟨a, xs, pairV H, rfl, Evl.sq_of (hs.ex _ _ g), fun x hx => ?_, fun ys p hsr hst hp => ?_⟩
      · obtain ⟨t, i, j, rfl, ht, e⟩ := hat x hx
        exact ⟨t, rfl, by rw [e]; exact hs.ex _ _ ht⟩
      · obtain ⟨g1, g2⟩ := hs.laid (u := .lst ys) hp
        have hys : ∀ y ∈ ys, y ∈ xs := fun y hy => hst.perm.mem_iff.mp hy
        have rys : ∀ ys : List V, (∀ y ∈ ys, y ∈ xs) → Reps X.K F ys ((ys.map fun x => ((pairV H x).1.toNat, (pairV H x).2.toNat)).map natP) := fun ys hys => by
          induction ys with
          | nil => exact .nil
          | cons y ys ih =>
            obtain ⟨t, i, j, rfl, ht, e⟩ := hat y (hys y List.mem_cons_self)
            rw [List.map_cons, List.map_cons]
            refine .cons ?_ (ih fun z hz => hys z (List.mem_cons_of_mem _ hz))
            rw [e]
            exact .tup ht (.cons (.int _) (.cons (.int _) .nil))
        refine kt _ _ _ _ _ (k (ys.map fun x => ((pairV H x).1.toNat, (pairV H x).2.toNat)) (by rw [← h2]; exact hst.perm.map _) ?_) g2 g1 (.lst upd_same ((rys ys hys).mono g2))
        rw [List.pairwise_map]
        refine List.Pairwise.imp_of_mem (fun {x y} hx hy h => ?_) hsr
        obtain ⟨t, i, j, rfl, ht, e1⟩ := hat x (hys x hx)
        obtain ⟨t', i', j', rfl, ht', e2⟩ := hat y (hys y hy)
        have h := SrtO.lexB_no.mp h
        rw [e1, e2] at h
        rw [e1, e2]
        show (i : Int).toNat < (i' : Int).toNat ∨ _
        simp only [Int.toNat_natCast]
        omega
end
theorem leP_uniq : ∀ (l l' : List (Nat × Nat)), l.Perm l' → l.Pairwise leP → l'.Pairwise leP → l = l'
  | [], l', h, _, _ => (List.Perm.eq_nil h.symm).symm
  | a :: l, [], h, _, _ => absurd h.length_eq (by simp)
  | a :: l, b :: l', h, h1, h2 => by
    have hab : leP a b := by
      rcases List.mem_cons.mp (h.mem_iff.mpr (List.mem_cons_self (a := b) (l := l'))) with e | e
      · rw [e]; exact .inr ⟨rfl, Nat.le_refl _⟩
      · exact (List.pairwise_cons.mp h1).1 b e
    have hba : leP b a := by
      rcases List.mem_cons.mp (h.mem_iff.mp (List.mem_cons_self (a := a) (l := l))) with e | e
      · rw [e]; exact .inr ⟨rfl, Nat.le_refl _⟩
      · exact (List.pairwise_cons.mp h2).1 a e
    have e : a = b := by unfold leP at hab hba; exact Prod.ext (by omega) (by omega)
    subst e
    rw [leP_uniq l l' h.cons_inv (List.pairwise_cons.mp h1).2 (List.pairwise_cons.mp h2).2]
end Oc

/-! Own layer: cells of which a word is known, loops and joins that name the slots they change alone, maps and filters. -/
namespace Oc
open PySem PySem.Spec L2
open Evl (Ex)
/-- a cell's word changes, its object stays -/
theorem Hs.turn {K : KF} {F H : Hp} {μ : Mu} (h : Hs K F μ H) {i : Nat} {p : Addr} {o o' : MO} (e : μ[i]? = some (p, o)) (r : ∀ u, RepO K F o u → RepO K F o' u) : Hs K F (μ.set i (p, o')) H := by
  obtain ⟨h1, u, h2, h3⟩ := h.at_ e
  have hw := h.write e (r u h3)
  have hH : upd H p u = H := by
    funext b
    unfold upd
    split
    · rename_i hb; rw [hb, h2]
    · rfl
  rwa [hH] at hw
section
variable {X : Cy} {e : Expr} {sts : List Stmt} {ρ : Rho} {μ : Mu} {Φ : D → Mu → Prop} {E : En}
theorem Hs.la {K : KF} {F H : Hp} {μ : Mu} (h : Hs K F μ H) {i : Nat} {p : Addr} {P : List D → Prop} (e : μ[i]? = some (p, .la P)) : ∃ ds, P ds ∧ Hs K F (μ.set i (p, .lst ds)) H := by
  obtain ⟨h1, u, h2, h3⟩ := h.at_ e
  cases h3 with
  | la hp r =>
    rename_i ds xs
    have hw := h.write e (u := .lst xs) (.lst r)
    have hH : upd H p (.lst xs) = H := by
      funext b
      unfold upd
      split
      · rename_i hb; rw [hb, h2]
      · rfl
    rw [hH] at hw
    exact ⟨ds, hp, hw⟩
theorem Hs.ka {K : KF} {F H : Hp} {μ : Mu} (h : Hs K F μ H) {i : Nat} {p : Addr} {P : List (Key × D) → Prop} (e : μ[i]? = some (p, .ka P)) : ∃ ds, P ds ∧ Hs K F (μ.set i (p, .dk ds)) H := by
  obtain ⟨h1, u, h2, h3⟩ := h.at_ e
  cases h3 with
  | ka hp r =>
    rename_i ds xs
    have hw := h.write e (u := .dK xs) (.dk r)
    have hH : upd H p (.dK xs) = H := by
      funext b
      unfold upd
      split
      · rename_i hb; rw [hb, h2]
      · rfl
    rw [hH] at hw
    exact ⟨ds, hp, hw⟩
theorem wSs_open {i : Nat} {q : Addr} {P : List D → Prop} (hi : μ[i]? = some (q, .la P)) (h : ∀ ds, P ds → wSs X sts ρ (μ.set i (q, .lst ds)) E) : wSs X sts ρ μ E := fun F σ H hs sl D kt => by
  obtain ⟨ds, hp, hs'⟩ := hs.la hi
  exact h ds hp F σ H hs' sl D kt
theorem wSs_openK {i : Nat} {q : Addr} {P : List (Key × D) → Prop} (hi : μ[i]? = some (q, .ka P)) (h : ∀ ds, P ds → wSs X sts ρ (μ.set i (q, .dk ds)) E) : wSs X sts ρ μ E := fun F σ H hs sl D kt => by
  obtain ⟨ds, hp, hs'⟩ := hs.ka hi
  exact h ds hp F σ H hs' sl D kt
theorem w_close (h : wE X e ρ μ fun d μ1 => ∃ (i : Nat) (q : Addr) (ds : List D) (P : List D → Prop), μ1[i]? = some (q, .lst ds) ∧ P ds ∧ Φ d (μ1.set i (q, .la P))) : wE X e ρ μ Φ := fun F σ H hs sl Q kt =>
  h F σ H hs sl Q fun v F1 H1 d μ1 ⟨i, q, ds, P, hi, hp, z⟩ e1 hs1 r => kt v F1 H1 d _ z e1 (hs1.turn hi fun u ru => by cases ru with | lst r => exact .la hp r) r
theorem w_closeK (h : wE X e ρ μ fun d μ1 => ∃ (i : Nat) (q : Addr) (ds : List (Key × D)) (P : List (Key × D) → Prop), μ1[i]? = some (q, .dk ds) ∧ P ds ∧ Φ d (μ1.set i (q, .ka P))) : wE X e ρ μ Φ := fun F σ H hs sl Q kt =>
  h F σ H hs sl Q fun v F1 H1 d μ1 ⟨i, q, ds, P, hi, hp, z⟩ e1 hs1 r => kt v F1 H1 d _ z e1 (hs1.turn hi fun u ru => by cases ru with | dk r => exact .ka hp r) r
theorem wSs_close {i : Nat} {q : Addr} {ds : List D} (P : List D → Prop) (hi : μ[i]? = some (q, .lst ds)) (hp : P ds) (h : wSs X sts ρ (μ.set i (q, .la P)) E) : wSs X sts ρ μ E := fun F σ H hs sl D kt =>
  h F σ H (hs.turn hi fun u ru => by cases ru with | lst r => exact .la hp r) sl D kt
theorem wSs_closeK {i : Nat} {q : Addr} {ds : List (Key × D)} (P : List (Key × D) → Prop) (hi : μ[i]? = some (q, .dk ds)) (hp : P ds) (h : wSs X sts ρ (μ.set i (q, .ka P)) E) : wSs X sts ρ μ E := fun F σ H hs sl D kt =>
  h F σ H (hs.turn hi fun u ru => by cases ru with | dk r => exact .ka hp r) sl D kt
/-- a weaker word of a cell -/
theorem wSs_weak {i : Nat} {q : Addr} {P P' : List D → Prop} (hi : μ[i]? = some (q, .la P)) (hp : ∀ ds, P ds → P' ds) (h : wSs X sts ρ (μ.set i (q, .la P')) E) : wSs X sts ρ μ E := fun F σ H hs sl D kt =>
  h F σ H (hs.turn hi fun u ru => by cases ru with | la p r => exact .la (hp _ p) r) sl D kt
end
/-! slots -/
def putR (ρ : Rho) : List Nat → List (Option D) → Rho
  | j :: js, v :: vs => putR (ρ.set j v) js vs
  | _, _ => ρ
def getR (ρ : Rho) (js : List Nat) : List (Option D) := js.map fun j => ρ.getD j none
theorem put_get : ∀ (js : List Nat) (ρ : Rho), putR ρ js (getR ρ js) = ρ
  | [], ρ => rfl
  | j :: js, ρ => by
    have e : ρ.set j (ρ.getD j none) = ρ := by
      refine List.ext_getElem? fun i => ?_
      by_cases hi : j = i
      · subst hi
        by_cases hl : j < ρ.length
        · rw [List.getElem?_set_self hl, List.getD_eq_getElem?_getD, List.getElem?_eq_getElem hl]
          rfl
        · rw [List.getElem?_eq_none (by rw [List.length_set]; omega), List.getElem?_eq_none (by omega)]
      · rw [List.getElem?_set_ne hi]
    show putR (ρ.set j (ρ.getD j none)) js (getR ρ js) = ρ
    rw [e]
    exact put_get js ρ
section
variable {X : Cy} {a b c e : Expr} {st : Stmt} {sts : List Stmt} {ρ : Rho} {μ : Mu} {Φ : D → Mu → Prop} {E : En} {pos p : Pos}
def Turn (ρ : Rho) (js : List Nat) (I : List (Option D) → Mu → Prop) (ρ' : Rho) (μ' : Mu) : Prop := ∃ vs, ρ' = putR ρ js vs ∧ I vs μ'
theorem w_forV {tg iter : Expr} {body : List Stmt} (js : List Nat) (h : wI X tg iter ρ μ fun its μ1 => ∃ (n : Nat) (Iv : Nat → List (Option D) → Mu → Prop), its.length = n ∧ Iv 0 (getR ρ js) μ1 ∧
      (∀ i x vs μ', its[i]? = some x → Iv i vs μ' → wG X tg x (putR ρ js vs) μ' fun ρ2 μ2 => wSs X body ρ2 μ2 { nx := Turn ρ js (Iv (i + 1)), rt := E.rt, bk := E.nx, ct := Turn ρ js (Iv (i + 1)) }) ∧ (∀ vs μ', Iv n vs μ' → E.nx (putR ρ js vs) μ'))
    (hp : PassesOwn (model X.prog X.w) X.A X.env X.xe) (hc : X.calm = true) (hs : ∀ x, foldedSetIterable iter X.env x = pure x := by intro _; rfl) : wS X (.For tg iter body [] pos) ρ μ E :=
  w_for (fun F σ H hh sl R kt => h F σ H hh sl R fun J its F1 μ1 H1 ⟨n, Iv, hn, h0, ht, hd⟩ e1 hs1 wk => kt J its F1 μ1 H1 ⟨fun i ρ' μ' => Turn ρ js (Iv i) ρ' μ', ⟨_, (put_get js ρ).symm, h0⟩, fun i x ρ' μ' hx ⟨vs, hv, iv⟩ => by subst hv; exact ht i x vs μ' hx iv, fun ρ' μ' ⟨vs, hv, iv⟩ => by subst hv; subst hn; exact hd vs μ' iv⟩ e1 hs1 wk) hp hc hs
theorem w_forPV {tg iter : Expr} {body : List Stmt} (js : List Nat) (h : wIP X tg iter ρ μ fun its P μ1 => ∃ (n : Nat) (Iv : Nat → List (Option D) → Mu → Prop), its.length = n ∧ Iv 0 (getR ρ js) μ1 ∧ (∀ i vs μ', Iv i vs μ' → P μ') ∧
      (∀ i x vs μ', its[i]? = some x → Iv i vs μ' → wG X tg x (putR ρ js vs) μ' fun ρ2 μ2 => wSs X body ρ2 μ2 { nx := Turn ρ js (Iv (i + 1)), rt := E.rt, bk := E.nx, ct := Turn ρ js (Iv (i + 1)) }) ∧ (∀ vs μ', Iv n vs μ' → E.nx (putR ρ js vs) μ'))
    (hp : PassesOwn (model X.prog X.w) X.A X.env X.xe) (hc : X.calm = true) (hs : ∀ x, foldedSetIterable iter X.env x = pure x := by intro _; rfl) : wS X (.For tg iter body [] pos) ρ μ E :=
  w_forP (fun F σ H hh sl R kt => h F σ H hh sl R fun J its P F1 μ1 H1 ⟨n, Iv, hn, h0, hP, ht, hd⟩ e1 hs1 wk => kt J its P F1 μ1 H1 ⟨fun i ρ' μ' => Turn ρ js (Iv i) ρ' μ', ⟨_, (put_get js ρ).symm, h0⟩, fun i ρ' μ' ⟨vs, _, iv⟩ => hP i vs μ' iv, fun i x ρ' μ' hx ⟨vs, hv, iv⟩ => by subst hv; exact ht i x vs μ' hx iv, fun ρ' μ' ⟨vs, hv, iv⟩ => by subst hv; subst hn; exact hd vs μ' iv⟩ e1 hs1 wk) hp hc hs
theorem w_whileV {body : List Stmt} (js : List Nat) (Iv : Nat → List (Option D) → Mu → Prop) (m0 : Nat) (h0 : Iv m0 (getR ρ js) μ)
    (ht : ∀ m vs μ', Iv m vs μ' → ∀ ρ', ρ' = putR ρ js vs → wT X c ρ' μ' fun k μ1 => (k = true → wSs X body ρ' μ1 { nx := fun ρ2 μ2 => ∃ vs m', ρ2 = putR ρ js vs ∧ m' < m ∧ Iv m' vs μ2, rt := E.rt, bk := E.nx, ct := fun ρ2 μ2 => ∃ vs m', ρ2 = putR ρ js vs ∧ m' < m ∧ Iv m' vs μ2 }) ∧ (k = false → E.nx ρ' μ1))
    (hp : PassesOwn (model X.prog X.w) X.A X.env X.xe) : wS X (.While c body [] pos) ρ μ E := by
  refine w_while (fun m ρ' μ' => Turn ρ js (Iv m) ρ' μ') m0 ⟨_, (put_get js ρ).symm, h0⟩ (fun m ρ' μ' ⟨vs, hv, iv⟩ => ?_) hp
  subst hv
  refine wt_mono (ht m vs μ' iv _ rfl) fun k μ1 q => ⟨fun hk => ?_, q.2⟩
  intro F σ H hs sl D kt
  exact q.1 hk F σ H hs sl D ⟨fun F1 H1 σ1 ρ1 μ1 ⟨vs', m', e1, h1, h2⟩ => kt.nx F1 H1 σ1 ρ1 μ1 ⟨m', h1, vs', e1, h2⟩, kt.rt, kt.bk, fun F1 H1 σ1 ρ1 μ1 ⟨vs', m', e1, h1, h2⟩ => kt.ct F1 H1 σ1 ρ1 μ1 ⟨m', h1, vs', e1, h2⟩⟩
/-- the slots written out -/
theorem wSs_rho {ρ' : Rho} (e : ρ = ρ') (h : wSs X sts ρ' μ E) : wSs X sts ρ μ E := e ▸ h
theorem wG_rho {tg : Expr} {d : D} {ΦS : Rho → Mu → Prop} {ρ' : Rho} (e : ρ = ρ') (h : wG X tg d ρ' μ ΦS) : wG X tg d ρ μ ΦS := e ▸ h
theorem w_cutV (js : List Nat) (M : List (Option D) → Mu → Prop) (h : wS X st ρ μ { E with nx := Turn ρ js M }) (k : ∀ vs μ', M vs μ' → wSs X sts (putR ρ js vs) μ' E) : wSs X (st :: sts) ρ μ E :=
  w_cut (Turn ρ js M) h fun ρ' μ' ⟨vs, hv, m⟩ => by subst hv; exact k vs μ' m
end
section
variable {X : Cy} {e : Expr} {st : Stmt} {ρ : Rho} {μ : Mu} {Φ : D → Mu → Prop} {E : En}
/-- a list made here, the first cell, stands still behind e -/
theorem w_fz0 (h : wE X e ρ μ fun d μ1 => ∃ p ds μ2, d = .ptr p ∧ μ1 = (p, .lst ds) :: μ2 ∧ Φ (.lst ds) μ2) : wE X e ρ μ Φ := w_fz (w_mono h fun d μ1 ⟨p, ds, μ2, h1, h2, q⟩ => ⟨0, p, ds, h1, by rw [h2]; rfl, by rw [h2]; exact q⟩)
/-- the first cell is needed no more behind e -/
theorem w_dr0 (h : wE X e ρ μ fun d μ1 => ∃ x μ2, μ1 = x :: μ2 ∧ Φ d μ2) : wE X e ρ μ Φ := w_dr (w_mono h fun d μ1 ⟨x, μ2, h1, q⟩ => ⟨μ2, by rw [h1]; exact List.sublist_cons_self _ _, q⟩)
theorem w_never (h : False) : wS X st ρ μ E := h.elim
end
section
variable {X : Cy} {es : List Expr} {ρ : Rho} {μ : Mu} {ΦS : Rho → Mu → Prop} {pos : Pos}
theorem wg_lst {n : Nat} {ds : List D} (hc : X.calm = true) (hl : ds.length = es.length) (h : wGs X es ds ρ μ ΦS) (hn : (assignEach es X.env).length = es.length := by rfl) (hst : (assignEach es X.env).findIdx? (·.1) = none := by rfl) : wG X (.Tuple es n pos) (.lst ds) ρ μ ΦS := fun F σ H v hs sl r Q kt => by
  cases r with
  | lst h1 h2 => exact sg_of (pg_lst hc pgs_s hn hst) ⟨_, _, rfl, Evl.sq_of (hs.ex _ _ h1), h2.length.trans hl, h F σ H _ hs sl h2 Q kt⟩
end
/-! numbers walked -/
abbrev natsD (n : Nat) : List D := (List.range n).map fun i : Nat => D.int i
theorem nats_get {n i : Nat} {d : D} (h : (natsD n)[i]? = some d) : i < n ∧ d = .int i := by
  unfold natsD at h
  rw [List.getElem?_map] at h
  by_cases hi : i < n
  · rw [List.getElem?_range hi] at h
    cases h
    exact ⟨hi, rfl⟩
  · rw [List.getElem?_eq_none (by rw [List.length_range]; omega)] at h
    cases h
theorem nats_len {n : Nat} : (natsD n).length = n := by unfold natsD; rw [List.length_map, List.length_range]
theorem rng_nats (n : Nat) : rngD 0 n = natsD n := by
  unfold rngD natsD
  exact List.map_congr_left fun i _ => by rw [Int.zero_add]
theorem natCast_toNat (n : Nat) : ((n : Nat) : Int).toNat = n := Int.toNat_natCast n
section
variable {X : Cy} {a b c e : Expr} {ρ : Rho} {μ : Mu} {pos p : Pos}
theorem wi_rngN {tg : Expr} {ΦI : List D → Mu → Prop} (hm : X.mg "range" = none) (h : wE X a ρ μ fun d μ1 => ∃ n : Nat, d = .int n ∧ n ≤ 100000000 ∧ ΦI (natsD n) μ1) (hg : Gl X "range" := by rfl) (hs : starEach [a] X.env = [(false, eval a X.env)] := by rfl) : wI X tg (.Call (.Name "range" p) [a] [] pos) ρ μ ΦI :=
  wi_rng1 hm (w_mono h fun d μ' ⟨n, hd, hn, q⟩ => ⟨n, hd, by omega, by rw [Int.toNat_natCast, rng_nats]; exact q⟩) hg hs
theorem wi_rngN2 {tg : Expr} {ΦI : List D → Mu → Prop} (hm : X.mg "range" = none) (h : wE X a ρ μ fun d μ1 => wE X b ρ μ1 fun d' μ2 => ∃ m n : Nat, d = .int m ∧ d' = .int n ∧ (m ≤ 100000000 ∧ n ≤ 100000000) ∧ ΦI ((List.range (n - m)).map fun i : Nat => D.int ((m + i : Nat) : Int)) μ2) (hg : Gl X "range" := by rfl)
    (hs : starEach [a, b] X.env = [(false, eval a X.env), (false, eval b X.env)] := by rfl) (hs2 : starEach [b] X.env = [(false, eval b X.env)] := by rfl) : wI X tg (.Call (.Name "range" p) [a, b] [] pos) ρ μ ΦI :=
  wi_rng2 hm (w_mono h fun d μ' q => w_mono q fun d' μ2 ⟨m, n, hd, hd', hn, q⟩ => ⟨m, n, hd, hd', by omega, by
    have e : rngD (m : Int) ((n : Int) - (m : Int)).toNat = (List.range (n - m)).map fun i : Nat => D.int ((m + i : Nat) : Int) := by
      unfold rngD
      rw [show ((n : Int) - (m : Int)).toNat = n - m by omega]
      exact List.map_congr_left fun i _ => by rw [Int.natCast_add]
    rw [e]
    exact q⟩) hg hs hs2
end
theorem nats2_get {m n i : Nat} {d : D} (h : ((List.range (n - m)).map fun i : Nat => D.int ((m + i : Nat) : Int))[i]? = some d) : m + i < n ∧ d = .int ((m + i : Nat) : Int) := by
  rw [List.getElem?_map] at h
  by_cases hi : i < n - m
  · rw [List.getElem?_range hi] at h
    cases h
    exact ⟨by omega, rfl⟩
  · rw [List.getElem?_eq_none (by rw [List.length_range]; omega)] at h
    cases h
theorem nats2_len {m n : Nat} : ((List.range (n - m)).map fun i : Nat => D.int ((m + i : Nat) : Int)).length = n - m := by rw [List.length_map, List.length_range]
theorem range_get {n i x : Nat} (h : (List.range n)[i]? = some x) : i < n ∧ x = i := by
  by_cases hi : i < n
  · rw [List.getElem?_range hi] at h
    cases h
    exact ⟨hi, rfl⟩
  · rw [List.getElem?_eq_none (by rw [List.length_range]; omega)] at h
    cases h
theorem map_get' {α : Type} {f : α → D} {l : List α} {i : Nat} {y : D} (h : (l.map f)[i]? = some y) : ∃ x, l[i]? = some x ∧ y = f x := by
  rw [List.getElem?_map] at h
  obtain ⟨x, h1, h2⟩ := Option.map_eq_some_iff.mp h
  exact ⟨x, h1, h2.symm⟩
theorem enum_get' {α : Type} {f : α → D} {l : List α} {i : Nat} {y : D} (h : (enumD (l.map f))[i]? = some y) : ∃ x, l[i]? = some x ∧ y = .tup [.int i, f x] := by
  obtain ⟨x, h1, h2⟩ := enumD_get h
  obtain ⟨z, h3, rfl⟩ := map_get' h1
  exact ⟨z, h3, h2⟩
theorem map_at {α : Type} {f : α → D} {l : List α} {i : Nat} {x : α} (h : l[i]? = some x) : (l.map f)[i]? = some (f x) := by rw [List.getElem?_map, h]; rfl
theorem lt_of_get {α : Type} {l : List α} {i : Nat} {x : α} (h : l[i]? = some x) : i < l.length := (List.getElem?_eq_some_iff.mp h).1
theorem get_here {α : Type} {l : List α} {x : α} : (x :: l)[0]? = some x := rfl
theorem get_cons {α : Type} {l : List α} {i : Nat} {x y : α} (h : l[i]? = some x) : (y :: l)[i + 1]? = some x := h
theorem get_set {α : Type} {l : List α} {i : Nat} {x y : α} (h : l[i]? = some x) : (l.set i y)[i]? = some y := List.getElem?_set_self (lt_of_get h)
theorem set_same {α : Type} : ∀ {l : List α} {i : Nat} {x : α}, l[i]? = some x → l.set i x = l
  | [], _, _, h => by simp at h
  | y :: l, 0, x, h => by simp at h; subst h; rfl
  | y :: l, i + 1, x, h => by rw [List.set_cons_succ, set_same (by simpa using h)]
section
variable {X : Cy} {μ : Mu} {Φ : D → Mu → Prop}
theorem ix_litN (l : List Nat) {r : Nat} (h1 : r < l.length) (k : ∀ x, x ∈ l → Φ (.int (x : Nat)) μ) : wIx X (.lst (l.map fun a : Nat => D.int a)) (.int (r : Nat)) μ Φ :=
  ix_lstD r rfl (by rw [List.getElem?_map, List.getElem?_eq_getElem h1]; rfl) (k _ (List.getElem_mem h1))
theorem ix_litNT (l : List Nat) {r : Nat} (h1 : r < l.length) (k : ∀ x, x ∈ l → Φ (.int (x : Nat)) μ) : wIx X (.tup (l.map fun a : Nat => D.int a)) (.int (r : Nat)) μ Φ :=
  ix_tupD r rfl (by rw [List.getElem?_map, List.getElem?_eq_getElem h1]; rfl) (k _ (List.getElem_mem h1))
/-- some item of a list -/
theorem ix_some {l : List D} {r : Nat} (P : D → Prop) (h1 : r < l.length) (hP : ∀ d ∈ l, P d) (k : ∀ d, P d → Φ d μ) : wIx X (.lst l) (.int (r : Nat)) μ Φ :=
  ix_lstD r rfl (List.getElem?_eq_getElem h1) (k _ (hP _ (List.getElem_mem h1)))
theorem ix_someT {l : List D} {r : Nat} (P : D → Prop) (h1 : r < l.length) (hP : ∀ d ∈ l, P d) (k : ∀ d, P d → Φ d μ) : wIx X (.tup l) (.int (r : Nat)) μ Φ :=
  ix_tupD r rfl (List.getElem?_eq_getElem h1) (k _ (hP _ (List.getElem_mem h1)))
end
theorem absN (x : Int) : 0 ≤ (if x < 0 then -x else x) := by split <;> omega
/-! pens -/
def penL3 (ns : List Int) (a l : Int) : List D := [.scr (ns.map D.int), .int a, .int l]
def penP (ns : List Int) (n : Nat) : List D → Prop := fun xs => ∃ a l : Int, xs = penL3 ns a l ∧ 0 ≤ a ∧ a ≤ n ∧ 0 ≤ l
abbrev penO (ns : List Int) (n : Nat) : MO := .la (penP ns n)
theorem penL3_1 {ns : List Int} {a l b : Int} : (penL3 ns a l).set 1 (.int b) = penL3 ns b l := rfl
theorem penL3_2 {ns : List Int} {a l b : Int} : (penL3 ns a l).set 2 (.int b) = penL3 ns a b := rfl
/-- a number is drawn -/
def S_draw : FS := fun ds μ Φ => ∃ (ns : List Int) (n : Nat) (q : Addr) (i : Nat) (many : Int), ds = [.ptr q, .int many] ∧ μ[i]? = some (q, penO ns n) ∧ n ≤ 1000000 ∧ (0 < many ∧ many < 1000000000) ∧
  ∀ (r : Nat) μ', (r : Int) < many → μ' = μ.set i (q, penO ns (n + 1)) → Φ (.int r) μ'
theorem mulBnd {x a : Int} (h0 : 0 ≤ x) (h1 : x < 2147483647) (h2 : 0 ≤ a) (h3 : a ≤ 1000100) : 0 ≤ x * a ∧ x * a ≤ 2147483647 * 1000100 :=
  ⟨Int.mul_nonneg h0 h2, Int.mul_le_mul (by omega) h3 h2 (by omega)⟩
/-! comprehensions without effects -/
section
variable {X : Cy} {elt tg : Expr} {ifs : List Expr} {scope : Scope} {t : Tg} {vs : List Nat} {ρ : Rho} {Φ : D → Mu → Prop} {its : List D} {μ1 : Mu}
abbrev LcQ (X : Cy) (elt : Expr) (ifs : List Expr) (scope : Scope) (t : Tg) (vs : List Nat) (ρ : Rho) (Φ : D → Mu → Prop) (its : List D) (μ1 : Mu) : Prop :=
  its.length ≤ 1000000 ∧ ∃ Iv : Nat → List D → Mu → Prop, Iv 0 [] μ1 ∧
    (∀ p i x acc μ2, its[i]? = some x → Iv i acc μ2 → ∃ ρ', t.put x (wipeR ρ vs) = some ρ' ∧ ∀ s H C cl fp, wTs (blkE X scope s H C cl fp) ifs ρ' ((p, .lst acc) :: μ2) fun k μ4 =>
      (k = true → ∀ s H C cl fp, wE (blkE X scope s H C cl fp) elt ρ' μ4 fun d μ5 => ∃ μ6, μ5 = (p, .lst acc) :: μ6 ∧ Iv (i + 1) (acc ++ [d]) μ6) ∧ (k = false → ∃ μ6, μ4 = (p, .lst acc) :: μ6 ∧ Iv (i + 1) acc μ6)) ∧
    (∀ p acc μ2, Iv its.length acc μ2 → Φ (.ptr p) ((p, .lst acc) :: μ2))
theorem lcW_of {iter : Expr} {μ : Mu} (h : wI X tg iter ρ μ fun its μ1 => LcQ X elt ifs scope t vs ρ Φ its μ1) : LcW X elt tg iter ifs scope t vs ρ μ Φ := h
theorem lcq_map {α : Type} (l : List α) (f : α → D) (g : α → D) (he : its = l.map f) (hl : l.length ≤ 1000000)
    (ht : ∀ (p : Addr) (i : Nat) (x : α), l[i]? = some x → ∃ ρ', t.put (f x) (wipeR ρ vs) = some ρ' ∧ ∀ s H C cl fp, wE (blkE X scope s H C cl fp) elt ρ' ((p, .lst ((l.take i).map g)) :: μ1) fun d μ5 => d = g x ∧ μ5 = (p, .lst ((l.take i).map g)) :: μ1)
    (hd : ∀ p, Φ (.ptr p) ((p, .lst (l.map g)) :: μ1)) : LcQ X elt [] scope t vs ρ Φ its μ1 := by
  subst he
  refine ⟨by rw [List.length_map]; exact hl, fun i acc μ2 => acc = (l.take i).map g ∧ μ2 = μ1, ⟨rfl, rfl⟩, ?_, ?_⟩
  · rintro p i x acc μ2 hx ⟨rfl, rfl⟩
    obtain ⟨y, hy, rfl⟩ := map_get' hx
    obtain ⟨ρ', h1, h2⟩ := ht p i y hy
    refine ⟨ρ', h1, fun _ _ _ _ _ => ⟨fun _ s H C cl fp => w_mono (h2 s H C cl fp) ?_, fun hb => (nomatch hb)⟩⟩
    rintro d μ5 ⟨rfl, rfl⟩
    exact ⟨_, rfl, by rw [filter_next hy, List.map_append]; rfl, rfl⟩
  · rintro p acc μ2 ⟨rfl, rfl⟩
    rw [List.length_map, List.take_of_length_le (Nat.le_refl _)]
    exact hd p
theorem lcq_filt {α : Type} {c : Expr} (l : List α) (f : α → D) (q : α → Bool) (g : α → D) (he : its = l.map f) (hl : l.length ≤ 1000000)
    (ht : ∀ (p : Addr) (i : Nat) (x : α), l[i]? = some x → ∃ ρ', t.put (f x) (wipeR ρ vs) = some ρ' ∧ (∀ s H C cl fp, wT (blkE X scope s H C cl fp) c ρ' ((p, .lst (((l.take i).filter q).map g)) :: μ1) fun k μ4 => k = q x ∧ μ4 = (p, .lst (((l.take i).filter q).map g)) :: μ1) ∧
      (q x = true → ∀ s H C cl fp, wE (blkE X scope s H C cl fp) elt ρ' ((p, .lst (((l.take i).filter q).map g)) :: μ1) fun d μ5 => d = g x ∧ μ5 = (p, .lst (((l.take i).filter q).map g)) :: μ1))
    (hd : ∀ p, Φ (.ptr p) ((p, .lst ((l.filter q).map g)) :: μ1)) : LcQ X elt [c] scope t vs ρ Φ its μ1 := by
  subst he
  refine ⟨by rw [List.length_map]; exact hl, fun i acc μ2 => acc = ((l.take i).filter q).map g ∧ μ2 = μ1, ⟨rfl, rfl⟩, ?_, ?_⟩
  · rintro p i x acc μ2 hx ⟨rfl, rfl⟩
    obtain ⟨y, hy, rfl⟩ := map_get' hx
    obtain ⟨ρ', h1, h2, h3⟩ := ht p i y hy
    refine ⟨ρ', h1, fun s H C cl fp => wt_mono (h2 s H C cl fp) ?_⟩
    rintro k μ4 ⟨rfl, rfl⟩
    refine ⟨fun hb s H C cl fp => w_mono (h3 hb s H C cl fp) ?_, fun hb => ⟨_, rfl, fm_no hy hb, rfl⟩⟩
    rintro d μ5 ⟨rfl, rfl⟩
    exact ⟨_, rfl, fm_yes hy hb, rfl⟩
  · rintro p acc μ2 ⟨rfl, rfl⟩
    rw [List.length_map, List.take_of_length_le (Nat.le_refl _)]
    exact hd p
end
end Oc

/-! Own layer: lists of lists that change, first finds. -/
namespace Oc
open PySem PySem.Spec L2
open Evl (Ex)
def cellsM (L : List (Addr × List D)) : Mu := L.map fun e => (e.1, MO.lst e.2)
def ptrsD (L : List (Addr × List D)) : List D := L.map fun e => .ptr e.1
theorem cells_at {L : List (Addr × List D)} {i : Nat} {a : Addr} {r : List D} (h : L[i]? = some (a, r)) (μ : Mu) : (cellsM L ++ μ)[i]? = some (a, .lst r) := by
  unfold cellsM
  rw [List.getElem?_append_left (by rw [List.length_map]; exact lt_of_get h), List.getElem?_map, h]
  rfl
theorem cells_set {L : List (Addr × List D)} {i : Nat} {a : Addr} {r : List D} (h : L[i]? = some (a, r)) (r' : List D) (μ : Mu) : (cellsM L ++ μ).set i (a, .lst r') = cellsM (L.set i (a, r')) ++ μ := by
  unfold cellsM
  rw [List.set_append_left _ _ (by rw [List.length_map]; exact lt_of_get h), List.map_set]
theorem cells_set1 {L : List (Addr × List D)} {i : Nat} {a : Addr} {r : List D} (h : L[i]? = some (a, r)) {r' : List D} {μ : Mu} {x : Addr × MO} : (x :: (cellsM L ++ μ)).set (i + 1) (a, .lst r') = x :: (cellsM (L.set i (a, r')) ++ μ) := by rw [List.set_cons_succ, cells_set h]
theorem cells_set2 {L : List (Addr × List D)} {i : Nat} {a : Addr} {r : List D} (h : L[i]? = some (a, r)) {r' : List D} {μ : Mu} {x y : Addr × MO} : (x :: y :: (cellsM L ++ μ)).set (i + 2) (a, .lst r') = x :: y :: (cellsM (L.set i (a, r')) ++ μ) := by rw [List.set_cons_succ, List.set_cons_succ, cells_set h]
theorem get_app {A μ : Mu} {i : Nat} {x : Addr × MO} (h : μ[i]? = some x) : (A ++ μ)[A.length + i]? = some x := by rw [List.getElem?_append_right (Nat.le_add_right _ _), Nat.add_sub_cancel_left]; exact h
theorem set_app {A μ : Mu} {i : Nat} {x : Addr × MO} : (A ++ μ).set (A.length + i) x = A ++ μ.set i x := by rw [List.set_append_right _ _ (Nat.le_add_right _ _), Nat.add_sub_cancel_left]
theorem ptrs_at {L : List (Addr × List D)} {i : Nat} {a : Addr} {r : List D} (h : L[i]? = some (a, r)) : (ptrsD L)[i]? = some (.ptr a) := by
  unfold ptrsD
  rw [List.getElem?_map, h]
  rfl
theorem ptrs_set {L : List (Addr × List D)} {i : Nat} {a : Addr} {r : List D} (h : L[i]? = some (a, r)) (r' : List D) : ptrsD (L.set i (a, r')) = ptrsD L := by
  unfold ptrsD
  rw [List.map_set]
  refine List.ext_getElem? fun t => ?_
  by_cases ht : i = t
  · subst ht
    rw [List.getElem?_set_self (by rw [List.length_map]; exact lt_of_get h), List.getElem?_map, h]
    rfl
  · rw [List.getElem?_set_ne ht]
theorem get_of_lt {α : Type} {l : List α} {i : Nat} (h : i < l.length) : ∃ x, l[i]? = some x ∧ x ∈ l := ⟨l[i], List.getElem?_eq_getElem h, List.getElem_mem h⟩
theorem mem_of_set {α : Type} {l : List α} {i : Nat} {x y : α} (h : y ∈ l.set i x) : y ∈ l ∨ y = x := by
  obtain ⟨j, hj, e⟩ := List.mem_iff_getElem.mp h
  by_cases hij : i = j
  · subst hij
    rw [List.getElem_set_self] at e
    exact .inr e.symm
  · rw [List.getElem_set_ne hij] at e
    exact .inl (e ▸ List.getElem_mem _)
theorem mem_of_erase {α : Type} {l : List α} {i : Nat} {y : α} (h : y ∈ l.eraseIdx i) : y ∈ l := (List.eraseIdx_sublist l i).subset h
theorem map_eraseIdx {α β : Type} {f : α → β} : ∀ (l : List α) (i : Nat), (l.map f).eraseIdx i = (l.eraseIdx i).map f
  | [], _ => rfl
  | _ :: _, 0 => rfl
  | a :: l, i + 1 => by
    rw [List.map_cons, List.eraseIdx_cons_succ, List.eraseIdx_cons_succ, List.map_cons, map_eraseIdx l i]
section
variable {X : Cy} {elt tg : Expr} {scope : Scope} {t : Tg} {vs : List Nat} {ρ : Rho} {Φ : D → Mu → Prop} {its : List D} {μ1 : Mu}
/-- each element is a new list that may change -/
theorem lcq_cells {α : Type} (l : List α) (f : α → D) (w : α → List D) (he : its = l.map f) (hl : l.length ≤ 1000000)
    (ht : ∀ (p : Addr) (i : Nat) (x : α) (L : List (Addr × List D)), l[i]? = some x → ∃ ρ', t.put (f x) (wipeR ρ vs) = some ρ' ∧ ∀ s H C cl fp, wE (blkE X scope s H C cl fp) elt ρ' ((p, .lst (ptrsD L)) :: (cellsM L ++ μ1)) fun d μ5 => ∃ r, d = .ptr r ∧ μ5 = (r, .lst (w x)) :: (p, .lst (ptrsD L)) :: (cellsM L ++ μ1))
    (hd : ∀ p L, L.map (·.2) = l.map w → Φ (.ptr p) ((p, .lst (ptrsD L)) :: (cellsM L ++ μ1))) : LcQ X elt [] scope t vs ρ Φ its μ1 := by
  subst he
  refine ⟨by rw [List.length_map]; exact hl, fun i acc μ2 => ∃ L, L.map (·.2) = (l.take i).map w ∧ acc = ptrsD L ∧ μ2 = cellsM L ++ μ1, ⟨[], rfl, rfl, rfl⟩, ?_, ?_⟩
  · rintro p i x acc μ2 hx ⟨L, hL, rfl, rfl⟩
    obtain ⟨y, hy, rfl⟩ := map_get' hx
    obtain ⟨ρ', h1, h2⟩ := ht p i y L hy
    refine ⟨ρ', h1, fun _ _ _ _ _ => ⟨fun _ s H C cl fp => w_pm (w_mono (h2 s H C cl fp) ?_), fun hb => (nomatch hb)⟩⟩
    rintro d μ5 ⟨r, rfl, rfl⟩
    refine ⟨(p, .lst (ptrsD L)) :: (cellsM (L ++ [(r, w y)]) ++ μ1), ?_, _, rfl, L ++ [(r, w y)], ?_, ?_, rfl⟩
    · have e : cellsM (L ++ [(r, w y)]) ++ μ1 = cellsM L ++ (r, MO.lst (w y)) :: μ1 := by unfold cellsM; rw [List.map_append, List.append_assoc]; rfl
      rw [e]
      exact (List.Perm.cons _ List.perm_middle).trans (List.Perm.swap _ _ _)
    · rw [List.map_append, hL, filter_next hy, List.map_append]; rfl
    · unfold ptrsD; rw [List.map_append]; rfl
  · rintro p acc μ2 ⟨L, hL, rfl, rfl⟩
    rw [List.length_map, List.take_of_length_le (Nat.le_refl _)] at hL
    exact hd p L hL
end
section
variable {X : Cy} {μ : Mu} {Φ : D → Mu → Prop}
theorem o_addN {a b : Nat} (k : Φ (.int ((a + b : Nat) : Int)) μ) : wOp X (binaryOp .Add) (.int (a : Nat)) (.int (b : Nat)) μ Φ := o_add (by rw [Int.natCast_add] at k; exact k)
theorem o_mulN {a b : Nat} (hc : a < 2 ^ 64) (k : Φ (.int ((a * b : Nat) : Int)) μ) : wOp X (binaryOp .Mult) (.int (a : Nat)) (.int (b : Nat)) μ Φ := o_mul (.inl ⟨by omega, by omega⟩) (by rw [Int.natCast_mul] at k; exact k)
end
section
variable {X : Cy} {μ : Mu} {Φ : D → Mu → Prop}
theorem o_modN {a b : Nat} (hc : 0 < b) (k : Φ (.int ((a % b : Nat) : Int)) μ) : wOp X (binaryOp .Mod) (.int (a : Nat)) (.int (b : Nat)) μ Φ := o_mod (by omega) (by rw [Int.natCast_emod] at k; exact k)
theorem o_divN {a b : Nat} (hc : 0 < b ∧ b < 1073741824) (k : Φ (.int ((a / b : Nat) : Int)) μ) : wOp X (binaryOp .FloorDiv) (.int (a : Nat)) (.int (b : Nat)) μ Φ := o_div (by omega) (by rw [Int.natCast_ediv] at k; exact k)
end
theorem eqv_lnil (ds : List D) : PyData.eqv (D.lst ds).py (D.lst []).py = ds.isEmpty := by
  cases ds with
  | nil => simp only [D.py, D.pys, PyData.eqv, PyData.eqvAll]; rfl
  | cons a l => simp only [D.py, D.pys, PyData.eqv, PyData.eqvAll]; rfl
theorem eqv_tnil (ds : List D) : PyData.eqv (D.tup ds).py (D.tup []).py = ds.isEmpty := by
  cases ds with
  | nil => simp only [D.py, D.pys, PyData.eqv, PyData.eqvAll]; rfl
  | cons a l => simp only [D.py, D.pys, PyData.eqv, PyData.eqvAll]; rfl
theorem row_snoc {l : List Nat} {a : Nat} : D.tup (l.map (fun a : Nat => D.int a) ++ [.int a]) = .tup ((l ++ [a]).map fun a : Nat => D.int a) := by rw [List.map_append]; rfl
/-! first finds -/
theorem find_first {f : Nat → Bool} {n i : Nat} (hi : i < n) (h : ∀ j, j < i → f j = false) (hf : f i = true) : (List.range n).find? f = some i := by
  rw [List.find?_eq_some_iff_getElem]
  exact ⟨hf, i, by rw [List.length_range]; exact hi, by simp, fun j hj => by simp [h j hj]⟩
theorem find_none {f : Nat → Bool} {n : Nat} (h : ∀ j, j < n → f j = false) : (List.range n).find? f = none := by
  rw [List.find?_eq_none]
  intro x hx
  rw [h x (List.mem_range.mp hx)]
  exact Bool.false_ne_true
theorem all_next {P : Nat → Prop} {i : Nat} (h : ∀ j, j < i → P j) (h1 : P i) : ∀ j, j < i + 1 → P j := fun j hj => by
  by_cases e : j = i
  · subst e; exact h1
  · exact h j (by omega)
theorem no_lt {P : Nat → Prop} : ∀ j, j < 0 → P j := fun j h => absurd h (Nat.not_lt_zero _)
section
variable {X : Cy} {e : Expr} {sts : List Stmt} {ρ : Rho} {μ : Mu} {Φ : D → Mu → Prop} {E : En}
/-- a cell of lists stands still from now on, with the lists in it -/
theorem wSs_dropL {L : List (Addr × List D)} {μ' : Mu} (h : wSs X sts ρ μ' E) (hs : μ'.Sublist μ) : wSs X sts ρ μ E := wSs_sub hs h
end
/-- slices of maps -/
theorem cut_map_to {α : Type} {f : α → D} {l : List α} (n : Nat) : cutD (l.map f) none (some (n : Int)) = (l.take n).map f := by rw [cutD_to, List.map_take]
theorem cut_map_from {α : Type} {f : α → D} {l : List α} (n : Nat) : cutD (l.map f) (some (n : Int)) none = (l.drop n).map f := by rw [cutD_from, List.map_drop]
end Oc

/-! Own layer: dicts of pairs, the least and greatest of a tuple. -/
namespace Oc
open PySem PySem.Spec L2
open Evl (Ex)
open PyProof.Rows (IsTup IntsAre)
open PySem.W (AlikeAll min_tuple_data max_tuple_data minD_ints maxD_ints)
section
variable {X : Cy}
theorem pairsT_of {pins : List (Addr × Obj)} {σ : L2.St} {H : Hp} {s : Shared} (I : Inv X pins σ H s) : ∀ {ps : List Addr} {kvs : List (List Key × V)}, Paired (fun p kv => ∃ b, SqT X.K H p [V.ref b, kv.2] ∧ H b = some (.tup (kv.1.map kV))) ps kvs →
    ∃ prs : List (List Key × Addr × Value), KT H kvs prs ∧ prs.length = ps.length ∧ ∀ (j : Nat) (q : List Key × Addr × Value), prs[j]? = some q → ∃ b : Addr, ps[j]? = some b ∧ IsTup s.heap b #[.ref q.2.1, q.2.2] ∧ (tupleKind (mixKind X.prog X.w)).is s.heap q.1 q.2.1
  | _, _, .nil => ⟨[], .nil, rfl, fun j q e => by simp at e⟩
  | _, _, .cons (a := p) (b := kv) h t => by
    obtain ⟨prs, r, hl, hp⟩ := pairsT_of I t
    obtain ⟨b, h, hb⟩ := h
    obtain ⟨its, rv, ht, _⟩ := I.tuple h
    obtain ⟨u, y, ei, ru, ry⟩ := vals2 rv
    subst ei
    cases (show u = Value.ref b from ru)
    refine ⟨(kv.1, b, y) :: prs, .cons ⟨rfl, hb, ry⟩ r, by rw [List.length_cons, List.length_cons, hl], fun j q e => ?_⟩
    cases j with
    | zero =>
      have e' : (kv.1, b, y) = q := Option.some.inj e
      subst e'
      exact ⟨p, rfl, ht, key_of I.hok hb⟩
    | succ j =>
      obtain ⟨b', e1, e2, e3⟩ := hp j q (by simpa using e)
      exact ⟨b', by simpa using e1, e2, e3⟩
theorem kt_keys {H : Hp} : ∀ {kvs : List (List Key × V)} {prs : List (List Key × Addr × Value)}, KT H kvs prs → prs.map (·.1) = kvs.map (·.1)
  | _, _, .nil => rfl
  | _, _, .cons h t => by rw [List.map_cons, List.map_cons, kt_keys t, h.1]
/-- dict(xs) of a list of pairs (tuple, value), no key twice -/
theorem cr_dictT (hu : X.c.A.units + 64 < cLine) (hc : X.calm = true) : CallR X (.type "dict") (fun xs H Q => ∃ (a : Addr) (ps : List Addr) (kvs : List (List Key × V)), xs = [.ref a] ∧ SqL X.K H a (ps.map V.ref) ∧ Paired (fun p kv => ∃ b, SqT X.K H p [V.ref b, kv.2] ∧ H b = some (.tup (kv.1.map kV))) ps kvs ∧
    (kvs.map (·.1)).Nodup ∧ ∀ p, H p = none → Q (.ref p) (upd H p (.dT kvs))) := by
  intro pins s σ H xs us Q I r q
  obtain ⟨a, ps, kvs, ex, hq, hp, hn, q⟩ := q
  subst ex
  obtain ⟨u, eu, rx⟩ := vals1 r
  subst eu
  cases rx
  obtain ⟨its, rv, pl, hz⟩ := I.list hq
  have ei := refs_at rv
  subst ei
  rw [List.length_map] at hz
  obtain ⟨prs, rel, hl, hpr⟩ := pairsT_of I hp
  obtain ⟨o, n, ho, hc0, hd, hdat⟩ := pl
  have hnp : (prs.map (·.1)).Nodup := by rw [kt_keys rel]; exact hn
  refine call_dict_pairsH (knd := tupleKind (mixKind X.prog X.w)) (ps := prs) (PairArg.list a (ps.map Value.ref).toArray (fun j => ps.getD j 0) (prs.map fun q => (Value.ref q.2.1, q.2.2))) (I.ok.hd hc) (by show _ + 1 + 1 < cLine; omega) ⟨⟨o, n, ho, hc0, hd, hdat⟩, ?_⟩ ?_ ?_ (by rw [List.length_map, hl]; exact hz) fun h' tk hd' k => ?_
  · refine ⟨by simp [hl], fun j kk v hj => ?_⟩
    rw [List.getElem?_map] at hj
    obtain ⟨q', hq', e⟩ := Option.map_eq_some_iff.mp hj
    cases e
    obtain ⟨b, e1, e2, _⟩ := hpr j q' hq'
    show _ = some (Value.ref (ps.getD j 0)) ∧ PairAt s.heap (ps.getD j 0) _ _
    rw [List.getD_eq_getElem?_getD, e1]
    exact ⟨by simp [e1], .inl e2⟩
  · refine ⟨by rw [List.length_map], fun i key v hr => ?_⟩
    have hr' : (prs.map fun q => (Value.ref q.2.1, q.2.2))[i]? = some (key, v) := hr
    rw [List.getElem?_map] at hr'
    obtain ⟨q', hq', e⟩ := Option.map_eq_some_iff.mp hr'
    cases e
    exact ⟨q'.1, q'.2.1, hq', rfl⟩
  · intro h' hk x hx
    obtain ⟨j, hj, e⟩ := List.mem_iff_getElem.mp hx
    obtain ⟨b, _, _, e3⟩ := hpr j x (by rw [List.getElem?_eq_getElem hj, e])
    obtain ⟨o2, vs, n2, h1, h2, h3, h4⟩ := e3
    exact ⟨o2, vs, n2, hk _ _ (Nat.ne_of_lt (Heap.lt_size h1)) (fun z => nomatch z) h1, h2, h3, h4⟩
  · rw [storedAllH_nil_of_nodup prs hnp] at hd'
    have hm : (s.heap.objs.size == sysModules) = false := beq_eq_false_iff_ne.mpr (Nat.ne_of_gt I.big)
    have hlen : kvs.length ≤ sizeLine := by
      have : prs.length = kvs.length := by have := congrArg List.length (kt_keys rel); simpa using this
      omega
    obtain ⟨o', es, ep, g1, g2, g3, g4, _, g5⟩ := hd'
    have hf := I.hok.fresh (Nat.le_refl s.heap.objs.size)
    refine ⟨.ref s.heap.objs.size, upd H s.heap.objs.size (.dT kvs), I.laid (t' := tk) (fun b o e => k b o (fun z => nomatch z) e) (Nat.le_refl _) ⟨hlen, hm, prs, Paired.mapP rel fun p q z => ⟨z.1, ?_, z.2.2⟩, o', es, ep, g1, g2, g3, g4, g5⟩, rfl, q _ hf⟩
    rw [upd_ne (ne_of_none z.2.1 hf)]
    exact z.2.1
end
section
variable {X : Cy} {μ : Mu} {Φ : D → Mu → Prop} {d : D}
theorem rep_pairs {K : PySem.W.Frag} {F H : Hp} (ex : Ex F H) : ∀ {kds : List (List Key × D)} {xs : List V}, Reps K F xs (kds.map fun e => .tup [tkD e.1, e.2]) →
    ∃ (ps : List Addr) (kvs : List (List Key × V)), xs = ps.map V.ref ∧ Paired (fun p kv => ∃ b, SqT K H p [V.ref b, kv.2] ∧ H b = some (.tup (kv.1.map kV))) ps kvs ∧ kvs.map (·.1) = kds.map (·.1) ∧ RepK K F kds kvs
  | [], _, .nil => ⟨[], [], rfl, .nil, rfl, .nil⟩
  | e :: kds, _, .cons r rr => by
    obtain ⟨ps, kvs, h1, h2, h3, h4⟩ := rep_pairs ex rr
    cases r with
    | tup g q =>
      cases q with
      | cons q1 q =>
        cases q with
        | cons q2 q =>
          cases q
          obtain ⟨b, rfl, hb⟩ := rep_tk q1
          rename_i a v
          exact ⟨a :: ps, (e.1, v) :: kvs, by rw [h1]; rfl, .cons ⟨b, Evl.st_of (ex _ _ g), ex _ _ hb⟩ h2, by rw [List.map_cons, List.map_cons, h3], .cons ⟨rfl, q2⟩ h4⟩
theorem c_dictT {kds : List (List Key × D)} (hu : X.c.A.units + 64 < cLine) (hd : d = .lst (kds.map fun e => .tup [tkD e.1, e.2])) (hn : (kds.map (·.1)).Nodup) (k : ∀ p, Φ (.ptr p) ((p, .dt kds) :: μ)) (hc : X.calm = true := by rfl) : wCl X (.type "dict") [d] μ Φ :=
  wcl_of (cr_dictT hu hc) fun F H vs hs r1 Q kt => by
  subst hd
  cases r1 with
  | cons r rr =>
    cases rr
    cases r with
    | lst g r =>
      obtain ⟨ps, kvs, rfl, h2, h3, h4⟩ := rep_pairs hs.ex r
      exact ⟨_, ps, kvs, rfl, Evl.sq_of (hs.ex _ _ g), h2, by rw [h3]; exact hn, fun p hp => kt _ _ _ _ _ (k p) (Ex.refl _) (hs.cell hp (.dt h4)) (.ptr p)⟩
/-- a dict made here stands still behind e -/
theorem w_fzD0 {e : Expr} {ρ : Rho} (h : wE X e ρ μ fun d μ1 => ∃ p ds μ2, d = .ptr p ∧ μ1 = (p, .dt ds) :: μ2 ∧ Φ (.dct (ds.map (·.1)) (ds.map (·.2))) μ2) : wE X e ρ μ Φ := fun F σ H hs sl Q kt pins s I =>
  thn (h F σ H hs sl (fun v H1 => ∃ q kvs, v = .ref q ∧ H1 q = some (.dT kvs) ∧ ∀ od, Q v (upd H1 q (.frz od (.dT kvs)))) (fun v F1 H1 d μ1 ⟨q, ds, μ2, hd, hm, z⟩ e1 hs1 r1 => by
    subst hd
    subst hm
    cases r1
    obtain ⟨kvs, g, rk⟩ := hs1.dt (i := 0) rfl
    obtain ⟨hF, _⟩ := hs1.at_ (i := 0) rfl
    refine ⟨q, kvs, rfl, g, fun od => ?_⟩
    have hsub := hs1.sub (List.sublist_cons_self _ _)
    have hn : ∀ o, (q, o) ∉ μ2 := fun o z => by
      have nd := hs1.nd
      rw [List.map_cons, List.nodup_cons] at nd
      exact nd.1 (List.mem_map.mpr ⟨_, z, rfl⟩)
    have hs2 : Hs X.K F1 μ2 (upd H1 q (.frz od (.dT kvs))) := ⟨fun a o z => by
        rw [upd_ne (ne_of_none z hF)]
        exact hs1.ex a o z, hsub.nd, fun a o z => by
        obtain ⟨h1, u, h2, h3⟩ := hsub.mu a o z
        exact ⟨h1, u, by rw [upd_ne (fun e => by subst e; exact hn o z)]; exact h2, h3⟩, hs1.gr⟩
    obtain ⟨hs3, e3⟩ := hs2.still hF upd_same hn
    obtain ⟨k1, k2⟩ := repK_split rk
    exact kt _ _ _ _ _ z (e1.trans e3) hs3 (.dct upd_same k1 (k2.mono e3))) pins s I) fun u s2 ⟨v, H2, I2, rv, q, kvs, hv, hq, hQ⟩ => by
    obtain ⟨od, I3⟩ := I2.lock hq True.intro
    exact ⟨v, _, I3, rv, hQ od⟩
/-! min, max of a tuple of two -/
theorem ints_room {i j : Int} {n : Nat} (hu : n + 64 < cLine) : n + 1 + PyData.depthAll [.int i, .int j] < cLine := by
  have : PyData.depthAll [.int i, .int j] ≤ 1 := by simp [PyData.depthAll, PyData.depth]
  omega
theorem alike_ints (i j : Int) : AlikeAll [.int i, .int j] := by
  refine ⟨fun x hx y hy => ?_, fun x hx => ?_⟩
  · rcases List.mem_cons.mp hx with rfl | hx
    · rcases List.mem_cons.mp hy with rfl | hy
      · rfl
      · rw [List.mem_singleton] at hy; subst hy; rfl
    · rw [List.mem_singleton] at hx
      subst hx
      rcases List.mem_cons.mp hy with rfl | hy
      · rfl
      · rw [List.mem_singleton] at hy; subst hy; rfl
  · rcases List.mem_cons.mp hx with rfl | hx
    · exact fun e => nomatch e
    · rw [List.mem_singleton] at hx; subst hx; exact fun e => nomatch e
theorem cr_minT (hu : X.c.A.units + 64 < cLine) (hc : X.calm = true) : CallR X (.builtin "min") (fun xs H Q => ∃ (a : Addr) (i j : Int), xs = [.ref a] ∧ SqT X.K H a [.int i, .int j] ∧ Q (.int (min i j)) H) := by
  intro pins s σ H xs us Q I r q
  obtain ⟨a, i, j, rfl, hq, q⟩ := q
  obtain ⟨its, rv, ht, _⟩ := I.tuple hq
  rw [Vals.ref1 r]
  have hi : IntsAre its [i, j] := Vals.ints (ns := [i, j]) rv
  refine min_tuple_data (x := .int i) (xs := [.int j]) (I.ok.hd hc) ht (by rw [show its.toArray.toList = its from rfl]; exact hi.reads s.heap (ns := [i, j])) (alike_ints i j) (ints_room hu) fun i' v h' tk bs hv hr hk => ?_
  have e := minD_ints i [j]
  rw [show ([j].map PyData.int) = [.int j] from rfl] at e
  rw [e] at hr
  obtain ⟨t, rfl, _⟩ := PyProof.Rows.reads_int_inv hr
  exact ⟨.int _, H, I.kept hk, ⟨_, rfl⟩, q⟩
theorem cr_maxT (hu : X.c.A.units + 64 < cLine) (hc : X.calm = true) : CallR X (.builtin "max") (fun xs H Q => ∃ (a : Addr) (i j : Int), xs = [.ref a] ∧ SqT X.K H a [.int i, .int j] ∧ Q (.int (max i j)) H) := by
  intro pins s σ H xs us Q I r q
  obtain ⟨a, i, j, rfl, hq, q⟩ := q
  obtain ⟨its, rv, ht, _⟩ := I.tuple hq
  rw [Vals.ref1 r]
  have hi : IntsAre its [i, j] := Vals.ints (ns := [i, j]) rv
  refine max_tuple_data (x := .int i) (xs := [.int j]) (I.ok.hd hc) ht (by rw [show its.toArray.toList = its from rfl]; exact hi.reads s.heap (ns := [i, j])) (alike_ints i j) (ints_room hu) fun i' v h' tk bs hv hr hk => ?_
  have e := maxD_ints i [j]
  rw [show ([j].map PyData.int) = [.int j] from rfl] at e
  rw [e] at hr
  obtain ⟨t, rfl, _⟩ := PyProof.Rows.reads_int_inv hr
  exact ⟨.int _, H, I.kept hk, ⟨_, rfl⟩, q⟩
theorem c_minT {a b : Nat} (hu : X.c.A.units + 64 < cLine) (k : Φ (.int ((min a b : Nat) : Int)) μ) (hc : X.calm = true := by rfl) : wCl X (.builtin "min") [.tup [.int (a : Nat), .int (b : Nat)]] μ Φ := wcl_of (cr_minT hu hc) fun F H xs hs r1 Q kt => by
  cases r1 with
  | cons r rr =>
    cases rr
    cases r with
    | tup g q =>
      cases q with
      | cons q1 q =>
        cases q with
        | cons q2 q =>
          cases q
          cases q1
          cases q2
          exact ⟨_, a, b, rfl, Evl.st_of (hs.ex _ _ g), by rw [show (min (a : Int) (b : Int)) = ((min a b : Nat) : Int) by omega]; exact kt.now k hs (.int _)⟩
theorem c_maxT {a b : Nat} (hu : X.c.A.units + 64 < cLine) (k : Φ (.int ((max a b : Nat) : Int)) μ) (hc : X.calm = true := by rfl) : wCl X (.builtin "max") [.tup [.int (a : Nat), .int (b : Nat)]] μ Φ := wcl_of (cr_maxT hu hc) fun F H xs hs r1 Q kt => by
  cases r1 with
  | cons r rr =>
    cases rr
    cases r with
    | tup g q =>
      cases q with
      | cons q1 q =>
        cases q with
        | cons q2 q =>
          cases q
          cases q1
          cases q2
          exact ⟨_, a, b, rfl, Evl.st_of (hs.ex _ _ g), by rw [show (max (a : Int) (b : Int)) = ((max a b : Nat) : Int) by omega]; exact kt.now k hs (.int _)⟩
theorem c_min2N {a b : Nat} (k : Φ (.int ((min a b : Nat) : Int)) μ) (hc : X.calm = true := by rfl) : wCl X (.builtin "min") [.int (a : Nat), .int (b : Nat)] μ Φ := c_min2 hc (by
  rw [show (if (b : Int) < (a : Int) then (b : Int) else (a : Int)) = ((min a b : Nat) : Int) by split <;> omega]; exact k)
theorem c_max2N {a b : Nat} (k : Φ (.int ((max a b : Nat) : Int)) μ) (hc : X.calm = true := by rfl) : wCl X (.builtin "max") [.int (a : Nat), .int (b : Nat)] μ Φ := c_max2 hc (by
  rw [show (if (b : Int) > (a : Int) then (b : Int) else (a : Int)) = ((max a b : Nat) : Int) by split <;> omega]; exact k)
end
theorem sd_scr {μ : Mu} {Φ : D → Mu → Prop} {ds : List D} {a b : Option Int} (k : Φ (.lst (cutD ds a b)) μ) : slD (.scr ds) a b μ Φ := k
/-! zip -/
def zipD (xs ys : List D) : List D := (xs.zip ys).map fun p => .tup [p.1, p.2]
theorem zipD_get {xs ys : List D} {i : Nat} {d : D} (h : (zipD xs ys)[i]? = some d) : ∃ x y, xs[i]? = some x ∧ ys[i]? = some y ∧ d = .tup [x, y] := by
  unfold zipD at h
  obtain ⟨e, he, rfl⟩ := map_get' h
  obtain ⟨h1, h2⟩ := List.getElem?_zip_eq_some.mp he
  exact ⟨_, _, h1, h2, rfl⟩
theorem zipD_len {xs ys : List D} : (zipD xs ys).length = min xs.length ys.length := by unfold zipD; rw [List.length_map, List.length_zip]
section
variable {X : Cy} {e f : Expr} {ρ : Rho} {μ : Mu} {pos p tpos : Pos}
theorem wi_zip {elts : List Expr} {kk : Nat} {ΦI : List D → Mu → Prop} (hm : X.mg "zip" = none) (h : wE X e ρ μ fun d1 μ1 => wE X f ρ μ1 fun d2 μ2 => ∃ xs ys, ((d1 = .lst xs ∧ d2 = .lst ys) ∨ (d1 = .tup xs ∧ d2 = .tup ys)) ∧ ΦI (zipD xs ys) μ2) (hg : Gl X "zip" := by rfl)
    (hs : starEach [e, f] X.env = (false, eval e X.env) :: starEach [f] X.env := by rfl) (hs2 : starEach [f] X.env = [(false, eval f X.env)] := by rfl) (hpl : (backTo pos (starEach [f] X.env)).any (·.1) = false := by rfl) :
    wI X (.Tuple elts kk tpos) (.Call (.Name "zip" p) [e, f] [] pos) ρ μ ΦI := fun F σ H hh sl R kt =>
  si_of (RZ.pi_zipA hg hm (pa_cons pe_s (pa_cons pe_s pa_nil hs2) hs) hs hpl) (h F σ H hh sl _ fun v F1 H1 d μ1 q1 e1 hs1 r1 => q1 F1 σ H1 hs1 (sl.mono e1) _ fun v2 F2 H2 d2 μ2 ⟨xs, ys, hd, q⟩ e2 hs2 r2 => by
    rcases hd with ⟨h1, h2⟩ | ⟨h1, h2⟩
    · subst h1
      subst h2
      have r1' := r1.mono e2
      cases r1' with
      | lst g r =>
        cases r2 with
        | lst g2 r2 =>
          rename_i a vs b ws
          refine ⟨a, b, vs, ws, rfl, .inl ⟨Evl.ex_l hs2.ex (Evl.sq_of g), Evl.ex_l hs2.ex (Evl.sq_of g2), kt _ _ F2 μ2 H2 q (e1.trans e2) hs2 fun i F' μ' H' e' hs' => ?_⟩⟩
          have g' : SqL X.K H' a vs := Evl.ex_l hs'.ex (Evl.ex_l e' (Evl.sq_of g))
          have g2' : SqL X.K H' b ws := Evl.ex_l hs'.ex (Evl.ex_l e' (Evl.sq_of g2))
          have l1 := r.length
          have l2 := r2.length
          rw [zipD_len]
          refine ⟨fun hi => ⟨vs, ws, vs[i]'(by omega), ws[i]'(by omega), g', g2', List.getElem?_eq_getElem _, List.getElem?_eq_getElem _⟩, fun hi => ⟨vs, ws, g', g2', by omega⟩, fun x H3 d hy hd => ?_⟩
          obtain ⟨T, y1, y2, rfl, hT, rfl, f1, f2⟩ := hy
          obtain ⟨x1, x2, hx1, hx2, rfl⟩ := zipD_get hd
          obtain ⟨z1, k1, k2⟩ := r.get hx1
          obtain ⟨z2, k3, k4⟩ := r2.get hx2
          cases (f1 _ g').symm.trans k1
          cases (f2 _ g2').symm.trans k3
          obtain ⟨q1, q2⟩ := hs'.laid (u := .tup [y1, y2]) hT
          exact ⟨_, q2, q1, .tup upd_same (.cons ((k2.mono e').mono q2) (.cons ((k4.mono e').mono q2) .nil))⟩
    · subst h1
      subst h2
      have r1' := r1.mono e2
      cases r1' with
      | tup g r =>
        cases r2 with
        | tup g2 r2 =>
          rename_i a vs b ws
          refine ⟨a, b, vs, ws, rfl, .inr ⟨Evl.ex_t hs2.ex (Evl.st_of g), Evl.ex_t hs2.ex (Evl.st_of g2), kt _ _ F2 μ2 H2 q (e1.trans e2) hs2 fun i F' μ' H' e' hs' => ?_⟩⟩
          have g' : SqT X.K H' a vs := Evl.ex_t hs'.ex (Evl.ex_t e' (Evl.st_of g))
          have g2' : SqT X.K H' b ws := Evl.ex_t hs'.ex (Evl.ex_t e' (Evl.st_of g2))
          have l1 := r.length
          have l2 := r2.length
          rw [zipD_len]
          refine ⟨fun hi => ⟨vs, ws, vs[i]'(by omega), ws[i]'(by omega), g', g2', List.getElem?_eq_getElem _, List.getElem?_eq_getElem _⟩, fun hi => ⟨vs, ws, g', g2', by omega⟩, fun x H3 d hy hd => ?_⟩
          obtain ⟨T, y1, y2, rfl, hT, rfl, f1, f2⟩ := hy
          obtain ⟨x1, x2, hx1, hx2, rfl⟩ := zipD_get hd
          obtain ⟨z1, k1, k2⟩ := r.get hx1
          obtain ⟨z2, k3, k4⟩ := r2.get hx2
          cases (f1 _ g').symm.trans k1
          cases (f2 _ g2').symm.trans k3
          obtain ⟨q1, q2⟩ := hs'.laid (u := .tup [y1, y2]) hT
          exact ⟨_, q2, q1, .tup upd_same (.cons ((k2.mono e').mono q2) (.cons ((k4.mono e').mono q2) .nil))⟩)
end
end Oc

/-! Own layer: data in lists, places of data, the length of a dict. -/
namespace Oc
open PySem PySem.Spec L2
open Evl (Ex)
theorem pys_py : ∀ ds : List D, D.pys ds = ds.map D.py
  | [] => by simp only [D.pys]; rfl
  | d :: ds => by simp only [D.pys, List.map_cons]; rw [pys_py ds]
section
variable {X : Cy} {μ : Mu} {Φ : D → Mu → Prop} {d : D} {n k0 : Nat}
theorem o_inPY {q : Addr} {ds : List D} (m : Nat) (hm : μ[m]? = some (q, MO.lst ds)) (hu : X.c.A.units + 65 < cLine) (h1 : Ly d n) (h2 : Lys ds k0) (k : Φ (.bl (ds.any fun z => PyData.eqv z.py d.py)) μ) (hn : n ≤ 60 := by decide) (hk : k0 ≤ 60 := by decide) : wOp X (compareOp .In) d (.ptr q) μ Φ := wop_of (op_inD hu) fun F H u v hs r1 r2 Q kt => by
  cases r2
  obtain ⟨xs, g, rx⟩ := hs.lst hm
  have e : (D.lst ds).py = .list (D.pys ds) := by simp only [D.py]
  have hp : Dp X.K H (.ref q) (.list (D.pys ds)) := .lst (Evl.sq_of g) (reps_py hs.ex rx h2.st)
  refine ⟨_, _, rep_py hs.ex r1 h1.st, hp, h1.shaped (by omega), e ▸ (Ly.lst h2).shaped (by omega), ?_⟩
  rw [pys_py, List.any_map]
  exact kt.now k hs (.bl _)
theorem o_ninPY {q : Addr} {ds : List D} (m : Nat) (hm : μ[m]? = some (q, MO.lst ds)) (hu : X.c.A.units + 65 < cLine) (h1 : Ly d n) (h2 : Lys ds k0) (k : Φ (.bl (!ds.any fun z => PyData.eqv z.py d.py)) μ) (hn : n ≤ 60 := by decide) (hk : k0 ≤ 60 := by decide) : wOp X (compareOp .NotIn) d (.ptr q) μ Φ := wop_of (op_notInD hu) fun F H u v hs r1 r2 Q kt => by
  cases r2
  obtain ⟨xs, g, rx⟩ := hs.lst hm
  have e : (D.lst ds).py = .list (D.pys ds) := by simp only [D.py]
  have hp : Dp X.K H (.ref q) (.list (D.pys ds)) := .lst (Evl.sq_of g) (reps_py hs.ex rx h2.st)
  refine ⟨_, _, rep_py hs.ex r1 h1.st, hp, h1.shaped (by omega), e ▸ (Ly.lst h2).shaped (by omega), ?_⟩
  rw [pys_py, List.any_map]
  exact kt.now k hs (.bl _)
theorem o_inLY {ds : List D} (hu : X.c.A.units + 65 < cLine) (h1 : Ly d n) (h2 : Lys ds k0) (k : Φ (.bl (ds.any fun z => PyData.eqv z.py d.py)) μ) (hn : n ≤ 60 := by decide) (hk : k0 ≤ 60 := by decide) : wOp X (compareOp .In) d (.lst ds) μ Φ := wop_of (op_inD hu) fun F H u v hs r1 r2 Q kt => by
  have e : (D.lst ds).py = .list (D.pys ds) := by simp only [D.py]
  refine ⟨_, D.pys ds, rep_py hs.ex r1 h1.st, e ▸ rep_py hs.ex r2 (Ly.lst h2).st, h1.shaped (by omega), e ▸ (Ly.lst h2).shaped (by omega), ?_⟩
  rw [pys_py, List.any_map]
  exact kt.now k hs (.bl _)
theorem o_ninLY {ds : List D} (hu : X.c.A.units + 65 < cLine) (h1 : Ly d n) (h2 : Lys ds k0) (k : Φ (.bl (!ds.any fun z => PyData.eqv z.py d.py)) μ) (hn : n ≤ 60 := by decide) (hk : k0 ≤ 60 := by decide) : wOp X (compareOp .NotIn) d (.lst ds) μ Φ := wop_of (op_notInD hu) fun F H u v hs r1 r2 Q kt => by
  have e : (D.lst ds).py = .list (D.pys ds) := by simp only [D.py]
  refine ⟨_, D.pys ds, rep_py hs.ex r1 h1.st, e ▸ rep_py hs.ex r2 (Ly.lst h2).st, h1.shaped (by omega), e ▸ (Ly.lst h2).shaped (by omega), ?_⟩
  rw [pys_py, List.any_map]
  exact kt.now k hs (.bl _)
/-- l.index(x), l standing still -/
theorem m_index {ds : List D} (hu : X.c.A.units + 65 < cLine) (j : Nat) {z : D} (h1 : Ly d n) (h2 : Lys ds k0) (hj : ds[j]? = some z) (he : PyData.eqv z.py d.py = true) (hno : ∀ (m : Nat) (z' : D), m < j → ds[m]? = some z' → PyData.eqv z'.py d.py = false) (k : Φ (.int (j : Nat)) μ) (hn : n ≤ 60 := by decide) (hk : k0 ≤ 60 := by decide) :
    wMt X "list" "list.index" (.lst ds) [d] μ Φ := wmt_of (mt_indexD hu) fun F H x xs hs r1 r2 Q kt => by
  have e : (D.lst ds).py = .list (D.pys ds) := by simp only [D.py]
  have hp := e ▸ rep_py hs.ex r1 (Ly.lst h2).st
  cases r2 with
  | cons r rr =>
    cases rr
    cases r1 with
    | lst g rx =>
      refine ⟨_, _, d.py, D.pys ds, j, z.py, rfl, rfl, hp, rep_py hs.ex r h1.st, e ▸ (Ly.lst h2).shaped (by omega), h1.shaped (by omega), ?_, he, fun m z' hm hz => ?_, kt.now k hs (.int _)⟩
      · rw [pys_py, List.getElem?_map, hj]; rfl
      · rw [pys_py, List.getElem?_map] at hz
        obtain ⟨w, hw, rfl⟩ := Option.map_eq_some_iff.mp hz
        exact hno m w hm hw
theorem m_clear {q : Addr} {ds : List D} (m : Nat) (hm : μ[m]? = some (q, .lst ds)) (k : Φ .non (μ.set m (q, .lst []))) : wMt X "list" "list.clear" (.ptr q) [] μ Φ := wmt_of mt_clear fun F H u us hs r1 r2 Q kt => by
  cases r1
  cases r2
  obtain ⟨xs, g, rx⟩ := hs.lst hm
  exact ⟨_, _, rfl, rfl, g, kt.now k (hs.write hm (.lst .nil)) .non⟩
/-- len(d) of a dict with tuples as keys -/
theorem c_lenDT {q : Addr} {ds : List (List Key × D)} (m : Nat) (hm : μ[m]? = some (q, MO.dt ds)) (k : Φ (.int ds.length) μ) : wCl X (.builtin "len") [.ptr q] μ Φ := wcl_of call_len_dT fun F H xs hs r1 Q kt => by
  cases r1 with
  | cons r rr =>
    cases rr
    cases r
    obtain ⟨kvs, g, rk⟩ := hs.dt hm
    refine ⟨_, kvs, rfl, g, ?_⟩
    rw [← rk.len]
    exact kt.now k hs (.int _)
end
section
variable {X : Cy} {o e : Expr} {ρ : Rho} {μ : Mu} {Φ : D → Mu → Prop} {apos cpos : Pos}
theorem w_index (h : wE X o ρ μ fun d μ1 => tyD "list" d μ1 ∧ wA X [e] ρ μ1 fun ds μ2 => wMt X "list" "list.index" d ds μ2 Φ)
    (hbase : attributeBase o "index" X.env (eval o X.env) = eval o X.env := by rfl)
    (hfew : ((backTo cpos (starEach [e] X.env)).all (fun x => !x.1) && (backToKw cpos (keywordEach [] X.env)).all (fun x => x.1.isSome)
      && decide (([e] : List Expr).length + ([] : List Keyword).length + (if ([] : List Keyword).isEmpty then 0 else 1) < 30)) = true := by rfl)
    (hline : (apos.endLine == cpos.line) = true := by rfl) (hs : starEach [e] X.env = (false, eval e X.env) :: starEach [] X.env := by rfl) :
    wE X (.Call (.Attribute o "index" apos) [e] [] cpos) ρ μ Φ := w_bm (by decide) PySem.F.plainAttrs_list PySem.F.slot_list_index PySem.F.type_list_index h hbase hfew hline hs rfl
theorem w_clear (h : wE X o ρ μ fun d μ1 => tyD "list" d μ1 ∧ wMt X "list" "list.clear" d [] μ1 Φ) (hbase : attributeBase o "clear" X.env (eval o X.env) = eval o X.env := by rfl) (hline : (apos.endLine == cpos.line) = true := by rfl) :
    wE X (.Call (.Attribute o "clear" apos) [] [] cpos) ρ μ Φ := w_bm0 (by decide) PySem.F.plainAttrs_list PySem.F.slot_list_clear PySem.F.type_list_clear h hbase hline
end
/-! a list that stands still, or a cell -/
def LV (d : D) (μ : Mu) (ds : List D) : Prop := d = .lst ds ∨ ∃ q, d = .ptr q ∧ ∃ m : Nat, μ[m]? = some (q, MO.lst ds)
theorem LV.cons {d : D} {μ : Mu} {ds : List D} (h : LV d μ ds) (x : Addr × MO) : LV d (x :: μ) ds := by
  rcases h with h | ⟨q, h, m, hm⟩
  · exact .inl h
  · exact .inr ⟨q, h, m + 1, hm⟩
theorem LV.sq {K : KF} {F H : Hp} {μ : Mu} {d : D} {ds : List D} {v : V} (hs : Hs K F μ H) (r : Rep K F v d) (h : LV d μ ds) : ∃ a xs, v = .ref a ∧ SqL K H a xs ∧ Reps K F xs ds := by
  rcases h with rfl | ⟨q, rfl, m, hm⟩
  · cases r with
    | lst g rx => exact ⟨_, _, rfl, Evl.sq_of (hs.ex _ _ g), rx⟩
  · cases r
    obtain ⟨xs, g, rx⟩ := hs.lst hm
    exact ⟨_, xs, rfl, Evl.sq_of g, rx⟩
section
variable {X : Cy} {e : Expr} {ρ : Rho} {μ : Mu} {Φ : D → Mu → Prop} {pos p tpos : Pos}
theorem wi_lv {tg : Expr} {ΦI : List D → (Mu → Prop) → Mu → Prop} (h : wE X e ρ μ fun d μ1 => ∃ ds, LV d μ1 ds ∧ ΦI ds (fun μ' => LV d μ' ds) μ1) : wIP X tg e ρ μ ΦI := fun F σ H hs sl R kt =>
  si_of (pi_list pe_s) (h F σ H hs sl _ fun v F1 H1 d μ1 ⟨ds, hd, z⟩ e1 hs1 r1 => by
    obtain ⟨a, xs, rfl, g, r⟩ := hd.sq hs1 r1
    refine ⟨a, rfl, ⟨xs, g⟩, kt _ ds _ F1 μ1 H1 z e1 hs1 fun i F' μ' H' e' hd' hs' => ?_⟩
    obtain ⟨a', ys, e2, g', r'⟩ := hd'.sq hs' (r1.mono e')
    cases e2
    refine ⟨fun hi => ⟨ys, ys[i]'(by rw [r'.length]; exact hi), g', List.getElem?_eq_getElem _⟩, fun hi => ⟨ys, g', by rw [r'.length]; exact Nat.le_of_eq hi.symm⟩, fun x H2 d hy hd => ?_⟩
    obtain ⟨rfl, fy⟩ := hy
    obtain ⟨y, h1, h2⟩ := r'.get hd
    cases (fy _ g').symm.trans h1
    exact ⟨F', Ex.refl _, hs', h2⟩)
theorem wi_enumLV {elts : List Expr} {kk : Nat} {ΦI : List D → (Mu → Prop) → Mu → Prop} (hm : X.mg "enumerate" = none) (h : wE X e ρ μ fun d μ1 => ∃ ds, LV d μ1 ds ∧ ΦI (enumD ds) (fun μ' => LV d μ' ds) μ1) (hg : Gl X "enumerate" := by rfl) (hs : starEach [e] X.env = [(false, eval e X.env)] := by rfl) :
    wIP X (.Tuple elts kk tpos) (.Call (.Name "enumerate" p) [e] [] pos) ρ μ ΦI := fun F σ H hh sl R kt =>
  si_of (pi_enum hg hm (pa_cons pe_s pa_nil hs) hs) (h F σ H hh sl _ fun v F1 H1 d μ1 ⟨ds, hd, z⟩ e1 hs1 r1 => by
    obtain ⟨a, xs, rfl, g, r⟩ := hd.sq hs1 r1
    refine ⟨a, xs, rfl, g, kt _ _ _ F1 μ1 H1 z e1 hs1 fun i F' μ' H' e' hd' hs' => ?_⟩
    obtain ⟨a', ys, e2, g', r'⟩ := hd'.sq hs' (r1.mono e')
    cases e2
    rw [enumD_len]
    refine ⟨fun hi => ⟨ys, ys[i]'(by rw [r'.length]; exact hi), g', List.getElem?_eq_getElem _⟩, fun hi => ⟨ys, g', by rw [r'.length]; exact Nat.le_of_eq hi.symm⟩, fun x H2 d hy hd => ?_⟩
    obtain ⟨T, y, rfl, hT, rfl, fy⟩ := hy
    obtain ⟨x', hx', rfl⟩ := enumD_get hd
    obtain ⟨z, h1, h2⟩ := r'.get hx'
    cases (fy _ g').symm.trans h1
    obtain ⟨g1, g2⟩ := hs'.laid (u := .tup [.int (i : Nat), y]) hT
    exact ⟨_, g2, g1, .tup upd_same (.cons (.int _) (.cons (h2.mono g2) .nil))⟩)
/-- a number of the module -/
theorem w_glob {z : Str} {n : Int} (hm : ∃ t, X.mg z = some (.int n t)) (k : Φ (.int n) μ) (hg : Gl X z := by rfl) (hd : (z == ("__debug__" : Str)) = false := by decide) : wE X (.Name z pos) ρ μ Φ := fun F σ H hs sl Q kt => by
  obtain ⟨t, hm⟩ := hm
  exact se_of (pe_glob (v := .int n) hg hm ⟨t, rfl⟩ hd) (kt.now k hs (.int n))
end
/-! rows in lists -/
theorem eqv_int (i j : Int) : PyData.eqv (D.int i).py (D.int j).py = decide (i = j) := by
  simp only [D.py, PyData.eqv]
  rw [Bool.eq_iff_iff, beq_iff_eq, decide_eq_true_iff]
theorem eqvAll_nats : ∀ a b : List Nat, PyData.eqvAll (D.pys (a.map fun x : Nat => D.int x)) (D.pys (b.map fun x : Nat => D.int x)) = decide (a = b)
  | [], [] => by simp only [List.map_nil, D.pys, PyData.eqvAll]; rfl
  | [], y :: b => by simp only [List.map_nil, List.map_cons, D.pys, PyData.eqvAll]; rfl
  | x :: a, [] => by simp only [List.map_nil, List.map_cons, D.pys, PyData.eqvAll]; rfl
  | x :: a, y :: b => by
    simp only [List.map_cons, D.pys, PyData.eqvAll]
    rw [eqvAll_nats a b, eqv_int]
    by_cases h : x = y
    · subst h; simp
    · have h' : ¬ ((x : Int) = (y : Int)) := by omega
      simp [h, h']
abbrev rwD (row : List Nat) : D := .tup (row.map fun a : Nat => .int a)
theorem eqv_rows (a b : List Nat) : PyData.eqv (rwD a).py (rwD b).py = decide (a = b) := by
  rw [← eqvAll_nats a b]
  show PyData.eqv (D.tup _).py (D.tup _).py = _
  simp only [D.py, PyData.eqv]
theorem ly_rw (l : List Nat) : Ly (rwD l) 1 := Ly.tup (Lys.map fun a _ => Ly.int a)
theorem rows_any (L : List (List Nat)) (r : List Nat) : ((L.map rwD).any fun z => PyData.eqv z.py (rwD r).py) = decide (r ∈ L) := by
  rw [List.any_map, Bool.eq_iff_iff, List.any_eq_true, decide_eq_true_iff]
  constructor
  · rintro ⟨a, ha, h⟩
    have h : PyData.eqv (rwD a).py (rwD r).py = true := h
    rw [eqv_rows, decide_eq_true_iff] at h
    subst h
    exact ha
  · exact fun h => ⟨r, h, by show PyData.eqv (rwD r).py (rwD r).py = true; rw [eqv_rows]; simp⟩
/-! rows as keys -/
abbrev rk (row : List Nat) : List Key := row.map fun a : Nat => .inl (a : Int)
theorem rk_eq (row : List Nat) : rwD row = tkD (rk row) := by
  show D.tup _ = D.tup _
  rw [List.map_map]
  rfl
theorem rk_inj : ∀ {a b : List Nat}, rk a = rk b → a = b
  | [], [], _ => rfl
  | x :: a, y :: b, h => by
    have h1 : (Sum.inl (x : Int) : Key) = .inl (y : Int) ∧ rk a = rk b := by simpa [rk] using h
    have h2 : (x : Int) = (y : Int) := by cases h1.1; rfl
    rw [rk_inj h1.2, show x = y by omega]
  | [], _ :: _, h => by cases h
  | _ :: _, [], h => by cases h
theorem putD_same {ds : List (List Key × D)} {k : List Key} {v : D} (h : (valD ds k).isSome = true) (hv : ∀ e ∈ ds, e.1 = k → e.2 = v) : putD ds k v = ds := by
  unfold putD
  rw [valD_any, h, if_pos rfl]
  have : (ds.map fun kv => if kv.1 = k then (kv.1, v) else kv) = ds.map id := List.map_congr_left fun e he => by
    by_cases h1 : e.1 = k
    · rw [if_pos h1, ← hv e he h1]; rfl
    · rw [if_neg h1]; rfl
  rw [this, List.map_id]
theorem Rm.un65 {k : Nat} {A : Around} (h : Rm k A) : A.units + 65 < cLine := by have := h.r.un; omega
/-- len(d), d standing still -/
theorem c_lenZ {X : Cy} {μ : Mu} {Φ : D → Mu → Prop} {ks : List (List Key)} {vs : List D} (k : Φ (.int ks.length) μ) : wCl X (.builtin "len") [.dct ks vs] μ Φ := fun F H xs hs r1 Q kt pins s σ us I rv => by
  cases r1 with
  | cons r rr =>
    cases rr
    cases r with
    | dct g e2 rx =>
      obtain ⟨u, rfl, ru⟩ := vals1 rv
      cases ru
      obtain ⟨z, hd, ys, rel, dd⟩ := dt_rd I.hok (.inr ⟨_, hs.ex _ _ g⟩)
      have hl := Paired.length rel
      have hks : ks.length = ys.length := by rw [← e2, List.length_map]; exact hl
      refine call_len_dictH hd dd (by rw [← hl]; rw [sizeLine_eq] at z; omega) ?_
      rw [← hks]
      exact ⟨.int ((ks.length : Nat) : Int), H, I.tok _, ⟨_, rfl⟩, kt.now k hs (.int _)⟩
end Oc

/-! Own layer: the keys of a dict as a list, pairs sorted into a new cell. -/
namespace Oc
open PySem PySem.Spec L2
open Evl (Ex)
/-- a tuple that is there stands still -/
theorem Hs.tupS {K : KF} {F H : Hp} {μ : Mu} (h : Hs K F μ H) {b : Addr} {xs : List V} (hb : H b = some (.tup xs)) : ∃ F', Ex F F' ∧ Hs K F' μ H ∧ F' b = some (.tup xs) := by
  cases e : F b with
  | some u =>
    have := h.ex b u e
    rw [hb] at this
    cases this
    exact ⟨F, Ex.refl F, h, e⟩
  | none =>
    obtain ⟨h1, h2⟩ := h.still e hb fun o q => by
      obtain ⟨_, u, h3, h4⟩ := h.mu b o q
      rw [hb] at h3
      cases h3
      cases h4
    exact ⟨_, h2, h1, upd_same⟩
theorem Hs.tupsS {K : KF} {H : Hp} {μ : Mu} : ∀ {kvs : List (List Key × V)} {bs : List Addr} {F : Hp}, Hs K F μ H → IsKeys H kvs bs → ∃ F', Ex F F' ∧ Hs K F' μ H ∧ Reps K F' (bs.map V.ref) (kvs.map fun e => tkD e.1)
  | _, _, F, h, .nil => ⟨F, Ex.refl F, h, .nil⟩
  | _, _, F, h, .cons hb t => by
    obtain ⟨F1, e1, h1, f1⟩ := h.tupS hb
    obtain ⟨F2, e2, h2, r2⟩ := Hs.tupsS h1 t
    refine ⟨F2, e1.trans e2, h2, .cons (.tup (e2 _ _ f1) ?_) r2⟩
    exact reps_kV _
section
variable {X : Cy} {μ : Mu} {Φ : D → Mu → Prop}
/-- list(d) of a dict with tuples as keys -/
theorem c_lstDT {q : Addr} {ds : List (List Key × D)} (m : Nat) (hm : μ[m]? = some (q, MO.dt ds)) (k : Φ (.lst (ds.map fun e => tkD e.1)) μ) (hc : X.calm = true := by rfl) : wCl X (.type "list") [.ptr q] μ Φ := wcl_of (call_list_dT hc) fun F H xs hs r1 Q kt => by
  cases r1 with
  | cons r rr =>
    cases rr
    cases r
    obtain ⟨kvs, g, rk⟩ := hs.dt hm
    refine ⟨q, kvs, rfl, .inl g, fun p bs hp hk => ?_⟩
    obtain ⟨F1, e1, h1, r1⟩ := hs.tupsS hk
    obtain ⟨g1, g2⟩ := h1.laid (u := .lst (bs.map V.ref)) hp
    have ek : ∀ {ds : List (List Key × D)} {kvs : List (List Key × V)}, RepK X.K F ds kvs → kvs.map (fun e => tkD e.1) = ds.map fun e => tkD e.1 := fun {ds kvs} r => by
      induction r with
      | nil => rfl
      | cons r rr ih => rw [List.map_cons, List.map_cons, ih, r.1]
    rw [ek rk] at r1
    exact kt _ _ _ _ _ k (e1.trans g2) g1 (.lst upd_same (r1.mono g2))
theorem c_sortedPP {d : D} {ps : List (Nat × Nat)} (hd : d = .lst (ps.map natP)) (k : ∀ (ps' : List (Nat × Nat)) (q : Addr), ps'.Perm ps → ps'.Pairwise leP → Φ (.ptr q) ((q, .lst (ps'.map natP)) :: μ)) : wCl X (.builtin "sorted") [d] μ Φ :=
  wcl_of cr_sortedPO fun F H vs hs r1 Q kt => by
  subst hd
  cases r1 with
  | cons r rr =>
    cases rr
    cases r with
    | lst g r =>
      rename_i a xs
      have at_ : ∀ {xs : List V} {ps : List (Nat × Nat)}, Reps X.K F xs (ps.map natP) → (∀ x ∈ xs, ∃ (t : Addr) (i j : Nat), x = .ref t ∧ F t = some (.tup [.int i, .int j])) ∧ xs.map (fun x => ((pairV H x).1.toNat, (pairV H x).2.toNat)) = ps := fun {xs ps} r => by
        induction ps generalizing xs with
        | nil => cases r; exact ⟨fun x hx => (nomatch hx), rfl⟩
        | cons p ps ih =>
          cases r with
          | cons r rr =>
            obtain ⟨h1, h2⟩ := ih rr
            cases r with
            | tup g q =>
              cases q with
              | cons q1 q =>
                cases q with
                | cons q2 q =>
                  cases q
                  cases q1
                  cases q2
                  refine ⟨fun x hx => ?_, ?_⟩
                  · rcases List.mem_cons.mp hx with rfl | hx
                    · exact ⟨_, _, _, rfl, g⟩
                    · exact h1 x hx
                  · rw [List.map_cons, h2]
                    congr 1
                    simp only [pairV, hs.ex _ _ g]
                    exact Prod.ext (by simp) (by simp)
      obtain ⟨h1, h2⟩ := at_ r
      have hat : ∀ x ∈ xs, ∃ (t : Addr) (i j : Nat), x = .ref t ∧ F t = some (.tup [.int i, .int j]) ∧ pairV H x = ((i : Int), (j : Int)) := fun x hx => by
        obtain ⟨t, i, j, rfl, ht⟩ := h1 x hx
        exact ⟨t, i, j, rfl, ht, by simp only [pairV, hs.ex _ _ ht]⟩
      refine ⟨a, xs, pairV H, rfl, Evl.sq_of (hs.ex _ _ g), fun x hx => ?_, fun ys p hsr hst hp => ?_⟩
      · obtain ⟨t, i, j, rfl, ht, e⟩ := hat x hx
        exact ⟨t, rfl, by rw [e]; exact hs.ex _ _ ht⟩
      · have hys : ∀ y ∈ ys, y ∈ xs := fun y hy => hst.perm.mem_iff.mp hy
        have rys : ∀ ys : List V, (∀ y ∈ ys, y ∈ xs) → Reps X.K F ys ((ys.map fun x => ((pairV H x).1.toNat, (pairV H x).2.toNat)).map natP) := fun ys hys => by
          induction ys with
          | nil => exact .nil
          | cons y ys ih =>
            obtain ⟨t, i, j, rfl, ht, e⟩ := hat y (hys y List.mem_cons_self)
            rw [List.map_cons, List.map_cons]
            refine .cons ?_ (ih fun z hz => hys z (List.mem_cons_of_mem _ hz))
            rw [e]
            exact .tup ht (.cons (.int _) (.cons (.int _) .nil))
        refine kt _ _ _ _ _ (k (ys.map fun x => ((pairV H x).1.toNat, (pairV H x).2.toNat)) p (by rw [← h2]; exact hst.perm.map _) ?_) (Ex.refl _) (hs.cell hp (.lst (rys ys hys))) (.ptr p)
        rw [List.pairwise_map]
        refine List.Pairwise.imp_of_mem (fun {x y} hx hy h => ?_) hsr
        obtain ⟨t, i, j, rfl, ht, e1⟩ := hat x (hys x hx)
        obtain ⟨t', i', j', rfl, ht', e2⟩ := hat y (hys y hy)
        have h := SrtO.lexB_no.mp h
        rw [e1, e2] at h
        rw [e1, e2]
        show (i : Int).toNat < (i' : Int).toNat ∨ _
        simp only [Int.toNat_natCast]
        omega
end
end Oc

/-! Own layer: zip of a list beside a tuple, either way about. -/
namespace Oc
open PySem PySem.Spec L2
open Evl (Ex)
/-- t: a tuple, else a list -/
def sqB (t : Bool) (K : PySem.W.Frag) (H : Hp) (a : Addr) (xs : List V) : Prop := match t with
  | false => SqL K H a xs
  | true => SqT K H a xs
def itB (t : Bool) (h : Heap) (it l : Addr) (k : Nat) : Prop := match t with
  | false => h.IsListIter it l k
  | true => h.IsTupleIter it l k
def isB (t : Bool) (h : Heap) (l : Addr) (its : Array Value) : Prop := match t with
  | false => h.IsList l its
  | true => h.IsTuple l its
def clB (t : Bool) : String := match t with
  | false => "list_iterator"
  | true => "tuple_iterator"
theorem itB.keep {t : Bool} {h h' : Heap} {it l : Addr} {k : Nat} (x : itB t h it l k) (e : ∀ o, h.get? it = some o → h'.get? it = some o) : itB t h' it l k := by
  cases t with
  | false => exact Heap.IsListIter.at x e
  | true => exact Heap.IsTupleIter.at x e
theorem isB.keep {t : Bool} {h h' : Heap} {l : Addr} {its : Array Value} (x : isB t h l its) (e : ∀ o, h.get? l = some o → h'.get? l = some o) : isB t h' l its := by
  cases t with
  | false => exact Heap.IsList.at x e
  | true => obtain ⟨o, ho, r⟩ := (show h.IsTuple l its from x); exact ⟨o, e o ho, r⟩
theorem itB.obj {t : Bool} {h : Heap} {it l : Addr} {k : Nat} (x : itB t h it l k) : ∃ o f, h.get? it = some o ∧ o.data = .fields f := by
  cases t with
  | false => obtain ⟨o, e, _, d⟩ := (show h.IsListIter it l k from x); exact ⟨o, _, e, d⟩
  | true => obtain ⟨o, e, _, d⟩ := (show h.IsTupleIter it l k from x); exact ⟨o, _, e, d⟩
theorem isB.lt {t : Bool} {h : Heap} {l : Addr} {its : Array Value} (x : isB t h l its) : l < h.objs.size := by
  cases t with
  | false => obtain ⟨o, ho, _⟩ := (show h.IsList l its from x); exact Heap.lt_size ho
  | true => obtain ⟨o, ho, _⟩ := (show h.IsTuple l its from x); exact Heap.lt_size ho
theorem sqB.ex {t : Bool} {K : PySem.W.Frag} {H H' : Hp} {a : Addr} {xs : List V} (e : Ex H H') (x : sqB t K H a xs) : sqB t K H' a xs := by
  cases t with
  | false => exact Evl.ex_l e x
  | true => exact Evl.ex_t e x
theorem sqB.at_ {X : Cx} {t : Bool} {pins : List (Addr × Obj)} {σ : L2.St} {H : Hp} {s : Shared} {a : Addr} {xs : List V} (I : Inv X pins σ H s) (x : sqB t X.K H a xs) : ∃ its : List Value, Vals xs its ∧ isB t s.heap a its.toArray := by
  cases t with
  | false => obtain ⟨its, r, p, _⟩ := I.list x; exact ⟨its, r, p.isList⟩
  | true => obtain ⟨its, r, p, _⟩ := I.tuple x; exact ⟨its, r, p⟩
theorem sqB.inj {X : Cx} {t : Bool} {pins : List (Addr × Obj)} {σ : L2.St} {H : Hp} {s : Shared} {a : Addr} {xs ys : List V} (I : Inv X pins σ H s) (x : sqB t X.K H a xs) (y : sqB t X.K H a ys) : xs = ys := by
  cases t with
  | false => exact I.list_inj x y
  | true => exact I.tuple_inj x y
section
variable {prog : Program} {w : World} {A : Around} {E : Value → Shared → Prop} {s : Shared} {t t2 : Bool}
theorem nextB_item {it l : Addr} {i : Nat} {items : Array Value} {x : Value} {Q : Value → Shared → Prop} (hit : itB t s.heap it l i) (hl : isB t s.heap l items) (hx : items[i]? = some x)
    (hQ : ∀ h', itB t h' it l (i + 1) → Heap.SameBut it s.heap h' → Q x { s with heap := h' }) : wpAny (model prog w) A (Builtin.SmallTypes.nextOf (.ref it)) Q E s := by
  cases t with
  | false => exact wpAny_nextOf_list_item hit hl hx hQ
  | true => exact RZ.nextOf_tuple_item hit hl hx hQ
theorem nextB_end {it l : Addr} {i : Nat} {items : Array Value} {Q : Value → Shared → Prop} (hh : A.handled = none) (hit : itB t s.heap it l i) (hl : isB t s.heap l items) (hx : items[i]? = none)
    (hE : ∀ h' e, Heap.ExtBut it s.heap h' → (∃ o, h'.get? e = some o ∧ o.cls = .type "StopIteration") → E (.ref e) { s with heap := h' }) : wpAny (model prog w) A (Builtin.SmallTypes.nextOf (.ref it)) Q E s := by
  cases t with
  | false => exact wpAny_nextOf_list_end hh hit hl hx hE
  | true => exact RZ.nextOf_tuple_end hh hit hl hx hE
theorem iterB {l : Addr} {items : Array Value} {Q : Value → Shared → Prop} (hl : isB t s.heap l items) (h : Q (.ref s.heap.objs.size) { s with heap := s.heap.push { cls := .type (clB t), data := .fields #[.ref l, .int 0 0] } }) :
    wpAny (model prog w) A (pyIter (.ref l)) Q E s := by
  cases t with
  | false => exact wpAny_pyIter_list hl h
  | true => exact wpAny_pyIter_tuple hl h
/-- the state of a zip between two turns -/
structure Zst (t t2 : Bool) (z TI TO i1 i2 l1 l2 : Addr) (k : Nat) (h : Heap) : Prop where
  zp : IsZip h z TI TO .none
  ti : IsPair h TI (.ref i1) (.ref i2)
  to : ∃ x y, IsPair h TO x y
  i1 : itB t h i1 l1 k
  i2 : itB t2 h i2 l2 k
variable {z TI TO i1 i2 l1 l2 : Addr} {k : Nat} {xs ys : Array Value}
/-- two items, handed out as a new pair -/
theorem zipB_item {x y : Value} {Q : Value → Shared → Prop} (D : ZipApart z TI TO i1 i2 l1 l2) (S : Zst t t2 z TI TO i1 i2 l1 l2 k s.heap) (h1 : isB t s.heap l1 xs) (h2 : isB t2 s.heap l2 ys) (hx : xs[k]? = some x) (hy : ys[k]? = some y)
    (hQ : ∀ h', IsZip h' z TI TO (rawInt s.heap.objs.size) → IsPair h' TI (.ref i1) (.ref i2) → (∃ a b, IsPair h' TO a b) → itB t h' i1 l1 (k + 1) → itB t2 h' i2 l2 (k + 1) → IsPair h' s.heap.objs.size x y →
      (∀ c o, c ≠ z → c ≠ TO → c ≠ i1 → c ≠ i2 → s.heap.get? c = some o → h'.get? c = some o) → Q (.ref s.heap.objs.size) { s with heap := h' }) :
    wpAny (model prog w) A (Builtin.«zip.__next__» ⟨[.ref z], []⟩) (fun fin s' => ∃ v, fin = .done (.ret v) ∧ Q v s') E s := by
  obtain ⟨hz, hTI, ⟨a, b, hTO⟩, S1, S2⟩ := S
  show wpAny _ _ (field (.ref z) 2 >>= _) _ _ _
  refine wpAny_bind (wpAny_field hz rfl (x := .bool false) rfl ?_)
  show wpAny _ _ (field (.ref z) 3 >>= _) _ _ _
  refine wpAny_bind (wpAny_field hz rfl (x := .ref TI) rfl (wpAny_bind (wpAny_seqItems hTI rfl ?_)))
  show wpAny _ _ (Builtin.SmallTypes.ownedTupleIsFree (.ref z) >>= _) _ _ _
  unfold Builtin.SmallTypes.ownedTupleIsFree
  refine wpAny_bind (wpAny_bind (wpAny_field hz rfl (x := .none) rfl (wpAny_pure ?_)))
  simp only [if_true]
  refine wpAny_bind (wpAny_rule (wpAny_bind (wpAny_field hz rfl (x := .ref TO) rfl (wpAny_bind (wpAny_setField_rec hz (by simp) fun g1 z1 b1 => ?_)))))
  replace z1 : IsZip g1 z TI TO .ellipsis := z1
  simp only [List.zipIdx_cons, List.zipIdx_nil, List.forIn_cons, List.forIn_nil]
  refine wpAny_bind (wpAny_bind (wpAny_bind (wpAny_onRaise ?_)))
  show wpAny _ _ (Builtin.SmallTypes.nextOf (.ref i1) >>= _) _ _ _
  refine wpAny_bind (nextB_item (S1.keep fun o e => b1.extBut _ o D.i1z e) (h1.keep fun o e => b1.extBut _ o D.l1z e) hx fun g2 S1' b2 => wpAny_pure ?_)
  have p2 : IsPair g2 TO a b := b2.extBut _ _ D.TOi1 (b1.extBut _ _ D.TOz hTO)
  refine wpAny_bind (wpAny_seqItems p2 rfl (wpAny_bind (wpAny_updateSeq_pair p2 fun g3 p3 b3 => wpAny_bind (wpAny_letGo (wpAny_pure ?_)))))
  replace p3 : IsPair g3 TO x b := p3
  refine wpAny_bind (wpAny_bind (wpAny_onRaise ?_))
  show wpAny _ _ (Builtin.SmallTypes.nextOf (.ref i2) >>= _) _ _ _
  have k3 : ∀ c o, c ≠ z → c ≠ TO → c ≠ i1 → s.heap.get? c = some o → g3.get? c = some o := fun c o q1 q2 q3 e => b3.extBut _ _ q2 (b2.extBut _ _ q3 (b1.extBut _ _ q1 e))
  refine wpAny_bind (nextB_item (S2.keep fun o e => k3 _ o D.i2z D.TOi2.symm D.i12.symm e) (h2.keep fun o e => k3 _ o D.l2z D.l2TO D.l2i1 e) hy fun g4 S2' b4 => wpAny_pure ?_)
  have p4 : IsPair g4 TO x b := b4.extBut _ _ D.TOi2 p3
  refine wpAny_bind (wpAny_seqItems p4 rfl (wpAny_bind (wpAny_updateSeq_pair p4 fun g5 p5 b5 => wpAny_bind (wpAny_letGo (wpAny_pure (wpAny_pure ?_))))))
  replace p5 : IsPair g5 TO x y := p5
  refine wpAny_bind (wpAny_seqItems p5 rfl (wpAny_bind (wpAny_newTuple ?_)))
  have n5 : g5.objs.size = s.heap.objs.size := by rw [b5.1, b4.1, b3.1, b2.1, b1.1]
  have z5 : IsZip g5 z TI TO .ellipsis := b5.extBut _ _ D.TOz.symm (b4.extBut _ _ D.i2z.symm (b3.extBut _ _ D.TOz.symm (b2.extBut _ _ D.i1z.symm z1)))
  have k5 : ∀ c o, c ≠ z → c ≠ TO → c ≠ i1 → c ≠ i2 → s.heap.get? c = some o → g5.get? c = some o := fun c o q1 q2 q3 q4 e => b5.extBut _ _ q2 (b4.extBut _ _ q4 (k3 c o q1 q2 q3 e))
  have S1'' : itB t g5 i1 l1 (k + 1) := S1'.keep fun o e => b5.extBut _ _ D.TOi1.symm (b4.extBut _ _ D.i12 (b3.extBut _ _ D.TOi1.symm e))
  have S2'' : itB t2 g5 i2 l2 (k + 1) := S2'.keep fun o e => b5.extBut _ _ D.TOi2.symm e
  have zlt : z < g5.objs.size := Heap.lt_size z5
  show wpAny _ _ (Builtin.SmallTypes.ownedTupleHandOut (.ref z) (.ref g5.objs.size) >>= _) _ _ _
  unfold Builtin.SmallTypes.ownedTupleHandOut
  have z6 : IsZip (g5.push { cls := .type "tuple", data := .seq #[x, y] }) z TI TO .ellipsis := Heap.get?_push_of_some _ z5
  refine wpAny_bind (wpAny_bind (wpAny_setField_rec z6 (by simp) fun g7 z7 b7 => ?_))
  replace z7 : IsZip g7 z TI TO (rawInt g5.objs.size) := z7
  refine wpAny_setField_rec z7 (by simp) fun g8 z8 b8 => ?_
  replace z8 : IsZip g8 z TI TO (rawInt g5.objs.size) := z8
  have up : ∀ c o, c ≠ z → g5.get? c = some o → g8.get? c = some o := fun c o q e => b8.extBut _ _ q (b7.extBut _ _ q (Heap.get?_push_of_some _ e))
  have t8 : IsPair g8 g5.objs.size x y := b8.extBut _ _ (Nat.ne_of_gt zlt) (b7.extBut _ _ (Nat.ne_of_gt zlt) (Heap.get?_push_size _ rfl))
  rw [n5] at z8 t8
  refine wpAny_pure ⟨_, rfl, ?_⟩
  show Q (.ref g5.objs.size) _
  rw [n5]
  exact hQ g8 z8 (up _ _ D.TIz (k5 _ _ D.TIz D.TITO D.TIi1 D.TIi2 hTI)) ⟨x, y, up _ _ D.TOz p5⟩ (S1''.keep fun o e => up _ o D.i1z e) (S2''.keep fun o e => up _ o D.i2z e) t8 fun c o q1 q2 q3 q4 e => up c o q1 (k5 c o q1 q2 q3 q4 e)
/-- one of both is at its end -/
theorem zipB_end {Q : Fin → Shared → Prop} (hh : A.handled = none) (D : ZipApart z TI TO i1 i2 l1 l2) (S : Zst t t2 z TI TO i1 i2 l1 l2 k s.heap) (h1 : isB t s.heap l1 xs) (h2 : isB t2 s.heap l2 ys) (he : xs[k]? = none ∨ ys[k]? = none)
    (hE : ∀ h' e, (∀ c o, c ≠ z → c ≠ TO → c ≠ i1 → c ≠ i2 → s.heap.get? c = some o → h'.get? c = some o) → (∃ o, h'.get? e = some o ∧ o.cls = .type "StopIteration") → E (.ref e) { s with heap := h' }) :
    wpAny (model prog w) A (Builtin.«zip.__next__» ⟨[.ref z], []⟩) Q E s := by
  obtain ⟨hz, hTI, ⟨a, b, hTO⟩, S1, S2⟩ := S
  show wpAny _ _ (field (.ref z) 2 >>= _) _ _ _
  refine wpAny_bind (wpAny_field hz rfl (x := .bool false) rfl ?_)
  show wpAny _ _ (field (.ref z) 3 >>= _) _ _ _
  refine wpAny_bind (wpAny_field hz rfl (x := .ref TI) rfl (wpAny_bind (wpAny_seqItems hTI rfl ?_)))
  show wpAny _ _ (Builtin.SmallTypes.ownedTupleIsFree (.ref z) >>= _) _ _ _
  unfold Builtin.SmallTypes.ownedTupleIsFree
  refine wpAny_bind (wpAny_bind (wpAny_field hz rfl (x := .none) rfl (wpAny_pure ?_)))
  simp only [if_true]
  refine wpAny_bind (wpAny_rule (wpAny_bind (wpAny_field hz rfl (x := .ref TO) rfl (wpAny_bind (wpAny_setField_rec hz (by simp) fun g1 z1 b1 => ?_)))))
  replace z1 : IsZip g1 z TI TO .ellipsis := z1
  simp only [List.zipIdx_cons, List.zipIdx_nil, List.forIn_cons, List.forIn_nil]
  refine wpAny_bind (wpAny_bind (wpAny_bind (wpAny_onRaise ?_)))
  show wpAny _ _ (Builtin.SmallTypes.nextOf (.ref i1) >>= _) _ _ _
  cases hx : xs[k]? with
  | none =>
    refine wpAny_bind (nextB_end hh (S1.keep fun o e => b1.extBut _ o D.i1z e) (h1.keep fun o e => b1.extBut _ o D.l1z e) hx fun g2 e b2 ⟨oe, q1, q2⟩ => ?_)
    have z2 : IsZip g2 z TI TO .ellipsis := b2 _ _ D.i1z.symm z1
    have ne : e ≠ z := fun q => by subst q; rw [z2] at q1; cases q1; simp at q2
    exact wpAny_setField_rec z2 (by simp) fun g3 _ b3 => hE g3 e (fun c o c1 _ c3 _ q => b3.extBut _ _ c1 (b2 _ _ c3 (b1.extBut _ _ c1 q))) ⟨oe, b3.extBut _ _ ne q1, q2⟩
  | some x =>
    have hy : ys[k]? = none := he.resolve_left (by rw [hx]; exact fun q => nomatch q)
    refine wpAny_bind (nextB_item (S1.keep fun o e => b1.extBut _ o D.i1z e) (h1.keep fun o e => b1.extBut _ o D.l1z e) hx fun g2 S1' b2 => wpAny_pure ?_)
    have p2 : IsPair g2 TO a b := b2.extBut _ _ D.TOi1 (b1.extBut _ _ D.TOz hTO)
    refine wpAny_bind (wpAny_seqItems p2 rfl (wpAny_bind (wpAny_updateSeq_pair p2 fun g3 p3 b3 => wpAny_bind (wpAny_letGo (wpAny_pure ?_)))))
    refine wpAny_bind (wpAny_bind (wpAny_onRaise ?_))
    show wpAny _ _ (Builtin.SmallTypes.nextOf (.ref i2) >>= _) _ _ _
    have k3 : ∀ c o, c ≠ z → c ≠ TO → c ≠ i1 → s.heap.get? c = some o → g3.get? c = some o := fun c o q1 q2 q3 e => b3.extBut _ _ q2 (b2.extBut _ _ q3 (b1.extBut _ _ q1 e))
    refine wpAny_bind (nextB_end hh (S2.keep fun o e => k3 _ o D.i2z D.TOi2.symm D.i12.symm e) (h2.keep fun o e => k3 _ o D.l2z D.l2TO D.l2i1 e) hy fun g4 e b4 ⟨oe, q1, q2⟩ => ?_)
    have z4 : IsZip g4 z TI TO .ellipsis := b4 _ _ D.i2z.symm (b3.extBut _ _ D.TOz.symm (b2.extBut _ _ D.i1z.symm z1))
    have ne : e ≠ z := fun q => by subst q; rw [z4] at q1; cases q1; simp at q2
    exact wpAny_setField_rec z4 (by simp) fun g5 _ b5 => hE g5 e (fun c o c1 c2 c3 c4 q => b5.extBut _ _ c1 (b4 _ _ c4 (k3 c o c1 c2 c3 q))) ⟨oe, b5.extBut _ _ ne q1, q2⟩
end
/-- the items of both, at each turn, in new pairs -/
def ItzB (t t2 : Bool) (K : PySem.W.Frag) (a b : Addr) : L2.It :=
  ⟨fun i H => ∃ (xs ys : List V) (x y : V), sqB t K H a xs ∧ sqB t2 K H b ys ∧ xs[i]? = some x ∧ ys[i]? = some y,
    fun i H v H' => ∃ T x y, v = .ref T ∧ H T = none ∧ H' = upd H T (.tup [x, y]) ∧ (∀ xs, sqB t K H a xs → xs[i]? = some x) ∧ ∀ ys, sqB t2 K H b ys → ys[i]? = some y,
    fun i H => ∃ xs ys : List V, sqB t K H a xs ∧ sqB t2 K H b ys ∧ (xs.length ≤ i ∨ ys.length ≤ i)⟩
theorem turn_zipB {t t2 : Bool} {P : Program} {w : World} {K : PySem.W.Frag} {elts : List Expr} {kk : Nat} {tpos : Pos} {a b z TI TO i1 i2 : Addr} (D : ZipApart z TI TO i1 i2 a b) :
    L2.Turn P w K (.Tuple elts kk tpos) (ItzB t t2 K a b) [z, TI, TO, i1, i2] z (fun i h => Zst t t2 z TI TO i1 i2 a b i h) where
  mem := by simp
  obj := fun i h st c hc => by
    obtain ⟨o1, f1, e1, d1⟩ := st.i1.obj
    obtain ⟨o2, f2, e2, d2⟩ := st.i2.obj
    obtain ⟨x, y, hTO⟩ := st.to
    have e' : c = z ∨ c = TI ∨ c = TO ∨ c = i1 ∨ c = i2 := by simpa using hc
    rcases e' with rfl | rfl | rfl | rfl | rfl
    · exact ⟨_, st.zp, fun v q => nomatch q⟩
    · exact ⟨_, st.ti, fun v q => nomatch q⟩
    · exact ⟨_, hTO, fun v q => nomatch q⟩
    · exact ⟨o1, e1, fun v q => by rw [d1] at q; cases q⟩
    · exact ⟨o2, e2, fun v q => by rw [d2] at q; cases q⟩
  keep := fun i h h' st k => by
    obtain ⟨x, y, hTO⟩ := st.to
    exact ⟨k z (by simp) _ st.zp, k TI (by simp) _ st.ti, ⟨x, y, k TO (by simp) _ hTO⟩, st.i1.keep fun o q => k i1 (by simp) o q, st.i2.keep fun o q => k i2 (by simp) o q⟩
  item := by
    intro X hP hw hK hc i pins s σ H E I hf st hg
    subst hP hw hK
    obtain ⟨xs, ys, x, y, hqx, hqy, hx, hy⟩ := hg
    obtain ⟨its, rv, p⟩ := hqx.at_ I
    obtain ⟨its2, rv2, p2⟩ := hqy.at_ I
    obtain ⟨u, hu, ru⟩ := rv.get hx
    obtain ⟨u2, hu2, ru2⟩ := rv2.get hy
    have hzl : z < s.heap.objs.size := Heap.lt_size st.zp
    have hT : s.TypeIs (.ref z) "zip" := ⟨_, st.zp, rfl⟩
    unfold pyNext
    refine wpAny_bind (wpAny_attempt (wpAny_callSpecial?_slot (name := Str.ofString "__next__") hT F.slot_zip_next (wpAny_call_entry F.slot_zip_next hT F.entry_zip_next
      (zipB_item D st p p2 (x := u) (y := u2) (by simpa using hu) (by simpa using hu2) fun h' z' ti' to' h1' h2' hT' hk => wpAny_pure ?_) (F.args_zip_next_1 _))))
    refine ⟨_, rfl, wpAny_letOwnedTupleGo_zip (s := { s with heap := h' }) z' fun h'' z'' sb => ?_⟩
    obtain ⟨a', b', to'⟩ := to'
    have hT2 : h''.get? s.heap.objs.size = some { cls := .type "tuple", data := .seq #[u, u2] } := (sb.2 _ (Nat.ne_of_gt hzl)).trans hT'
    have new : ObjOk X.prog X.w (upd H s.heap.objs.size (.tup [x, y])) h'' s.heap.objs.size (.tup [x, y]) :=
      ⟨by show 2 ≤ sizeLine; decide, [u, u2], .cons ru (.cons ru2 .nil), ⟨_, hT2, rfl, _, rfl⟩⟩
    have I1 : Inv X pins σ (upd H s.heap.objs.size (.tup [x, y])) { s with heap := h'' } :=
      I.turnedNew (t' := s.toks) (ch := [z, TI, TO, i1, i2]) (fun c o hb q => (sb.2 c (fun q' => hb (by simp [q']))).trans (hk c o (fun q' => hb (by simp [q'])) (fun q' => hb (by simp [q'])) (fun q' => hb (by simp [q'])) (fun q' => hb (by simp [q'])) q)) hf (Nat.le_refl _) new
    have up : ∀ c o, c ≠ z → h'.get? c = some o → h''.get? c = some o := fun c o q e => (sb.2 c q).trans e
    refine ⟨.ref s.heap.objs.size, _, I1, rfl, ⟨_, x, y, rfl, I.hok.fresh (Nat.le_refl _), rfl, fun l hl => by rw [hl.inj I hqx]; exact hx, fun l hl => by rw [hl.inj I hqy]; exact hy⟩,
      ⟨z'', up _ _ D.TIz ti', ⟨a', b', up _ _ D.TOz to'⟩, h1'.keep fun o e => up _ o D.i1z e, h2'.keep fun o e => up _ o D.i2z e⟩, fun c hcm => ?_⟩
    have hlt : c < s.heap.objs.size := by
      obtain ⟨x', y', hTO⟩ := st.to
      obtain ⟨_, _, e1, _⟩ := st.i1.obj
      obtain ⟨_, _, e2, _⟩ := st.i2.obj
      have e' : c = z ∨ c = TI ∨ c = TO ∨ c = i1 ∨ c = i2 := by simpa using hcm
      rcases e' with rfl | rfl | rfl | rfl | rfl
      · exact hzl
      · exact Heap.lt_size st.ti
      · exact Heap.lt_size hTO
      · exact Heap.lt_size e1
      · exact Heap.lt_size e2
    rw [upd_ne (Nat.ne_of_lt hlt)]
    exact (hf c hcm).1
  done := by
    intro X hP hw hK hc i pins s σ H E I hf st hg
    subst hP hw hK
    obtain ⟨xs, ys, hqx, hqy, hend⟩ := hg
    obtain ⟨its, rv, p⟩ := hqx.at_ I
    obtain ⟨its2, rv2, p2⟩ := hqy.at_ I
    have l1 := rv.length
    have l2 := rv2.length
    have he : its.toArray[i]? = none ∨ its2.toArray[i]? = none := by
      rcases hend with q | q
      · exact .inl (by simp; omega)
      · exact .inr (by simp; omega)
    have hT : s.TypeIs (.ref z) "zip" := ⟨_, st.zp, rfl⟩
    unfold pyNext
    refine wpAny_bind (wpAny_attempt (wpAny_callSpecial?_slot (name := Str.ofString "__next__") hT F.slot_zip_next (wpAny_call_entry F.slot_zip_next hT F.entry_zip_next
      (zipB_end (I.ok.hd hc) D st p p2 he fun h' e hk ⟨o, ho, hc'⟩ => ?_) (F.args_zip_next_1 _))))
    refine wpAny_bind (wpAny_isInstance (T := "StopIteration") (b := true) ⟨o, ho, hc'⟩ isSubtype_stop (wpAny_pure ⟨rfl, ?_⟩))
    exact I.turnedL (t' := s.toks) (ch := [z, TI, TO, i1, i2]) (fun c o hb q => hk c o (fun q' => hb (by simp [q'])) (fun q' => hb (by simp [q'])) (fun q' => hb (by simp [q'])) (fun q' => hb (by simp [q'])) q) hf
  self := fun A i s Q E st h => wpAny_pyIter_zip st.zp h
/-- the objects that zip(l1, l2) lays -/
abbrev zB1 (t : Bool) (h : Heap) (l1 : Addr) : Heap := h.push { cls := .type (clB t), data := .fields #[.ref l1, .int 0 0] }
abbrev zB2 (t t2 : Bool) (h : Heap) (l1 l2 : Addr) : Heap := zB1 t2 (zB1 t h l1) l2
abbrev zB3 (t t2 : Bool) (h : Heap) (l1 l2 : Addr) : Heap := (zB2 t t2 h l1 l2).push { cls := .type "tuple", data := .seq #[.ref h.objs.size, .ref (zB1 t h l1).objs.size] }
abbrev zB4 (t t2 : Bool) (h : Heap) (l1 l2 : Addr) : Heap := (zB3 t t2 h l1 l2).push { cls := .type "tuple", data := .seq #[.none, .none] }
abbrev zB5 (t t2 : Bool) (h : Heap) (l1 l2 : Addr) : Heap := (zB4 t t2 h l1 l2).push { cls := .type "zip", data := .fields #[.none, .bool false, .bool false, .ref (zB2 t t2 h l1 l2).objs.size, .ref (zB3 t t2 h l1 l2).objs.size] }
theorem meets_zipB (t t2 : Bool) (l1 l2 : Addr) (xs ys : Array Value) :
    Meets (Builtin.«zip.__new__» ⟨[.type "zip", .ref l1, .ref l2], []⟩) (fun _ R s => isB t s.heap l1 xs ∧ isB t2 s.heap l2 ys ∧ R (.ok (.ret (.ref (zB4 t t2 s.heap l1 l2).objs.size))) { s with heap := zB5 t t2 s.heap l1 l2 }) :=
  .of_wp fun prog w A R s h => by
    obtain ⟨hp, g, d, tk, os⟩ := s
    obtain ⟨h1, h2, h⟩ := h
    have hsub := sub_zip
    have hL1 : isB t (Shared.heap ⟨hp, g, d, tk, os⟩) l1 xs := h1
    have hL2 : isB t2 (Shared.heap ⟨zB1 t hp l1, g, d, tk, os⟩) l2 ys := h2.keep fun o e => Heap.get?_push_of_some _ e
    wp_walk using iterB hL1, iterB hL2
    exact ⟨_, rfl, h⟩
section
variable {prog : Program} {w : World} {A : Around} {E : Value → Shared → Prop} {s : Shared} {t t2 : Bool}
theorem call_zipB {l1 l2 : Addr} {xs ys : Array Value} {Q : Value → Shared → Prop} (h1 : isB t s.heap l1 xs) (h2 : isB t2 s.heap l2 ys)
    (h : ∀ h', Zst t t2 (s.heap.objs.size + 4) (s.heap.objs.size + 2) (s.heap.objs.size + 3) s.heap.objs.size (s.heap.objs.size + 1) l1 l2 0 h' → (∀ c o, s.heap.get? c = some o → h'.get? c = some o) → Q (.ref (s.heap.objs.size + 4)) { s with heap := h' }) :
    wpAny (model prog w) A (call (.type "zip") [.ref l1, .ref l2]) Q E s := by
  refine callType_new F.called_zip (by decide) (F.typeCall_zip_2 _ _) (F.newCall_zip_2 _ _) (fun obj => F.args_object_init_3 obj _ _) F.entry_zip_new (meets_zipB t t2 l1 l2 xs ys) ⟨h1, h2, ?_⟩
  have n1 : (zB1 t s.heap l1).objs.size = s.heap.objs.size + 1 := Heap.size_push ..
  have n2 : (zB2 t t2 s.heap l1 l2).objs.size = s.heap.objs.size + 2 := by rw [Heap.size_push, n1]
  have n3 : (zB3 t t2 s.heap l1 l2).objs.size = s.heap.objs.size + 3 := by rw [Heap.size_push, n2]
  have n4 : (zB4 t t2 s.heap l1 l2).objs.size = s.heap.objs.size + 4 := by rw [Heap.size_push, n3]
  have p : ∀ {c o} {h : Heap} {o'}, h.get? c = some o → (h.push o').get? c = some o := fun e => Heap.get?_push_of_some _ e
  have q5 : (zB5 t t2 s.heap l1 l2).get? (zB4 t t2 s.heap l1 l2).objs.size = some _ := Heap.get?_push_size _ rfl
  have q4 : (zB5 t t2 s.heap l1 l2).get? (zB3 t t2 s.heap l1 l2).objs.size = some _ := p (Heap.get?_push_size _ rfl)
  have q3 : (zB5 t t2 s.heap l1 l2).get? (zB2 t t2 s.heap l1 l2).objs.size = some _ := p (p (Heap.get?_push_size _ rfl))
  have q2 : (zB5 t t2 s.heap l1 l2).get? (zB1 t s.heap l1).objs.size = some _ := p (p (p (Heap.get?_push_size _ rfl)))
  have q1 : (zB5 t t2 s.heap l1 l2).get? s.heap.objs.size = some _ := p (p (p (p (Heap.get?_push_size _ rfl))))
  show _ ∧ _
  rw [n2, n3, n4] at q5
  rw [n1, n2] at q3
  rw [n3] at q4
  rw [n1] at q2
  rw [n4]
  refine ⟨⟨_, q5, rfl⟩, h _ ⟨q5, q3, ⟨_, _, q4⟩, ?_, ?_⟩ fun c o x => p (p (p (p (p x))))⟩
  · cases t with
    | false => exact ⟨_, q1, rfl, rfl⟩
    | true => exact ⟨_, q1, rfl, rfl⟩
  · cases t2 with
    | false => exact ⟨_, q2, rfl, rfl⟩
    | true => exact ⟨_, q2, rfl, rfl⟩
end
def iZipB (t t2 : Bool) (K : PySem.W.Frag) (ta : TA) : L2.TI := fun σ H R => ta σ H fun vs H1 => ∃ a b xs ys, vs = [.ref a, .ref b] ∧ sqB t K H1 a xs ∧ sqB t2 K H1 b ys ∧ R (ItzB t t2 K a b) H1
theorem pi_zipB {t t2 : Bool} {X : Cy} {e e2 : Expr} {ta : TA} {p pos tpos : Pos} {elts : List Expr} {kk : Nat} (hg : Gl X "zip") (hm : X.mg "zip" = none) (ha : PA X [e, e2] ta)
    (hs : starEach [e, e2] X.env = (false, eval e X.env) :: starEach [e2] X.env := by rfl) (hpl : (backTo pos (starEach [e2] X.env)).any (·.1) = false := by rfl) :
    PI X (.Tuple elts kk tpos) (.Call (.Name "zip" p) [e, e2] [] pos) (iZipB t t2 X.K ta) := by
  refine ⟨fun pins s σ H R I h => ?_⟩
  refine PyProof.Rows.Call_ (ld_blt I hg hm PyProof.Rows.boot_zip (PyProof.Rows.callWith_type1 (thn (ha.run pos pins s σ H _ I h) fun us s1 ⟨vs, H1, I1, r1, q1⟩ => ?_) hs hpl))
  obtain ⟨a, b, xs, ys, rfl, hx, hy, q⟩ := q1
  cases r1 with
  | cons r rr =>
    cases rr with
    | cons r' rr =>
      cases rr
      cases r
      cases r'
      obtain ⟨its, rv, p1⟩ := hx.at_ I1
      obtain ⟨its2, rv2, p2⟩ := hy.at_ I1
      refine call_zipB p1 p2 fun h' st hk => wpAny_pyIter_zip st.zp ?_
      have I2 : Inv X pins σ H1 { s1 with heap := h' } := I1.kept (t' := s1.toks) hk
      refine ⟨s1.heap.objs.size + 4, [s1.heap.objs.size + 4, s1.heap.objs.size + 2, s1.heap.objs.size + 3, s1.heap.objs.size, s1.heap.objs.size + 1], _, _, H1, rfl, I2, turn_zipB (PySem.W.ktu_apart s1.heap.objs.size a b p1.lt p2.lt), st, fun c hcm => ?_, q⟩
      have hle : s1.heap.objs.size ≤ c := by
        have e' : c = s1.heap.objs.size + 4 ∨ c = s1.heap.objs.size + 2 ∨ c = s1.heap.objs.size + 3 ∨ c = s1.heap.objs.size ∨ c = s1.heap.objs.size + 1 := by simpa using hcm
        rcases e' with rfl | rfl | rfl | rfl | rfl
        all_goals first | exact Nat.le_add_right _ _ | exact Nat.le_refl _
      have := I1.fpOk hle (I1.hok.fresh hle)
      exact this
section
variable {X : Cy} {e f : Expr} {ρ : Rho} {μ : Mu} {pos p tpos : Pos}
theorem seqB_of {t : Bool} {K : PySem.W.Frag} {F H : Hp} {v : V} {d : D} {xs : List D} (ex : Ex F H) (r : Rep K F v d) (h : d = if t then .tup xs else .lst xs) : ∃ a vs, v = .ref a ∧ sqB t K H a vs ∧ Reps K F vs xs := by
  cases t with
  | false =>
    subst h
    cases r with
    | lst g rx => exact ⟨_, _, rfl, Evl.sq_of (ex _ _ g), rx⟩
  | true =>
    subst h
    cases r with
    | tup g rx => exact ⟨_, _, rfl, Evl.st_of (ex _ _ g), rx⟩
theorem wi_zipB (t t2 : Bool) {elts : List Expr} {kk : Nat} {ΦI : List D → Mu → Prop} (hm : X.mg "zip" = none) (h : wE X e ρ μ fun d1 μ1 => wE X f ρ μ1 fun d2 μ2 => ∃ xs ys, (d1 = if t then .tup xs else .lst xs) ∧ (d2 = if t2 then .tup ys else .lst ys) ∧ ΦI (zipD xs ys) μ2) (hg : Gl X "zip" := by rfl)
    (hs : starEach [e, f] X.env = (false, eval e X.env) :: starEach [f] X.env := by rfl) (hs2 : starEach [f] X.env = [(false, eval f X.env)] := by rfl) (hpl : (backTo pos (starEach [f] X.env)).any (·.1) = false := by rfl) :
    wI X (.Tuple elts kk tpos) (.Call (.Name "zip" p) [e, f] [] pos) ρ μ ΦI := fun F σ H hh sl R kt =>
  si_of (pi_zipB (t := t) (t2 := t2) hg hm (pa_cons pe_s (pa_cons pe_s pa_nil hs2) hs) hs hpl) (h F σ H hh sl _ fun v F1 H1 d μ1 q1 e1 hs1 r1 => q1 F1 σ H1 hs1 (sl.mono e1) _ fun v2 F2 H2 d2 μ2 ⟨xs, ys, h1, h2, q⟩ e2 hs2 r2 => by
    obtain ⟨a, vs, rfl, g, r⟩ := seqB_of hs2.ex (r1.mono e2) h1
    obtain ⟨b, ws, rfl, g2, r2'⟩ := seqB_of hs2.ex r2 h2
    refine ⟨a, b, vs, ws, rfl, g, g2, kt _ _ F2 μ2 H2 q (e1.trans e2) hs2 fun i F' μ' H' e' hs' => ?_⟩
    obtain ⟨a', vs', e3, g', r'⟩ := seqB_of hs'.ex ((r1.mono e2).mono e') h1
    obtain ⟨b', ws', e4, g2', r2''⟩ := seqB_of hs'.ex (r2.mono e') h2
    cases e3
    cases e4
    have l1 := r'.length
    have l2 := r2''.length
    rw [zipD_len]
    refine ⟨fun hi => ⟨vs', ws', vs'[i]'(by omega), ws'[i]'(by omega), g', g2', List.getElem?_eq_getElem _, List.getElem?_eq_getElem _⟩, fun hi => ⟨vs', ws', g', g2', by omega⟩, fun x H3 d hy hd => ?_⟩
    obtain ⟨T, y1, y2, rfl, hT, rfl, f1, f2⟩ := hy
    obtain ⟨x1, x2, hx1, hx2, rfl⟩ := zipD_get hd
    obtain ⟨z1, k1, k2⟩ := r'.get hx1
    obtain ⟨z2, k3, k4⟩ := r2''.get hx2
    cases (f1 _ g').symm.trans k1
    cases (f2 _ g2').symm.trans k3
    obtain ⟨q1, q2⟩ := hs'.laid (u := .tup [y1, y2]) hT
    exact ⟨_, q2, q1, .tup upd_same (.cons (k2.mono q2) (.cons (k4.mono q2) .nil))⟩)
end
end Oc

/-! Own layer: the order of nested data; a tuple's last item; a slice without the last one. -/
namespace Oc
open PySem PySem.Spec L2
open Evl (Ex)
def rDB (K : PySem.W.Frag) (f : PyData → PyData → Bool) : R2 := fun x y H Q => ∃ d e, Dp K H x d ∧ Dp K H y e ∧ PySem.W.alike d e = true ∧ d ≠ .none ∧ min d.depth e.depth ≤ 60 ∧ Q (.bl (f d e)) H
section
variable {X : Cy} {μ : Mu} {Φ : D → Mu → Prop} {d d1 d2 : D} {n m : Nat}
theorem op_gtD (hu : X.c.A.units + 64 < cLine) : OpR X (compareOp .Gt) (rDB X.K fun d e => PySem.W.dataLt e d) := by
  intro pins s σ H x y v u Q I rx ry h
  obtain ⟨d, e, hd, he, al, hn, hm, q⟩ := h
  obtain ⟨as, r1⟩ := Dp.reads I d x v hd rx
  obtain ⟨bs, r2⟩ := Dp.reads I e y u he ry
  exact PySem.W.gt_data r1 r2 al hn (by omega) ⟨.bl _, H, I, rfl, q⟩
theorem op_ltD (hu : X.c.A.units + 64 < cLine) : OpR X (compareOp .Lt) (rDB X.K fun d e => PySem.W.dataLt d e) := by
  intro pins s σ H x y v u Q I rx ry h
  obtain ⟨d, e, hd, he, al, hn, hm, q⟩ := h
  obtain ⟨as, r1⟩ := Dp.reads I d x v hd rx
  obtain ⟨bs, r2⟩ := Dp.reads I e y u he ry
  exact PySem.W.lt_data r1 r2 al hn (by omega) ⟨.bl _, H, I, rfl, q⟩
theorem ly_depth {d : D} {n : Nat} (h : Ly d n) : d.py.depth ≤ n := h.dp
theorem o_gtY (hu : X.c.A.units + 64 < cLine) (h1 : Ly d1 n) (h2 : Ly d2 m) (al : PySem.W.alike d1.py d2.py = true) (hn : d1.py ≠ .none) (k : Φ (.bl (PySem.W.dataLt d2.py d1.py)) μ) (hn1 : n ≤ 60 := by decide) : wOp X (compareOp .Gt) d1 d2 μ Φ :=
  wop_of (op_gtD hu) fun F H u v hs r1 r2 Q kt =>
  ⟨_, _, rep_py hs.ex r1 h1.st, rep_py hs.ex r2 h2.st, al, hn, by have := ly_depth h1; omega, kt.now k hs (.bl _)⟩
theorem o_ltY (hu : X.c.A.units + 64 < cLine) (h1 : Ly d1 n) (h2 : Ly d2 m) (al : PySem.W.alike d1.py d2.py = true) (hn : d1.py ≠ .none) (k : Φ (.bl (PySem.W.dataLt d1.py d2.py)) μ) (hn1 : n ≤ 60 := by decide) : wOp X (compareOp .Lt) d1 d2 μ Φ :=
  wop_of (op_ltD hu) fun F H u v hs r1 r2 Q kt =>
  ⟨_, _, rep_py hs.ex r1 h1.st, rep_py hs.ex r2 h2.st, al, hn, by have := ly_depth h1; omega, kt.now k hs (.bl _)⟩
theorem ix_tupN {ds l : List D} (hd : ds = l ++ [d]) (k : Φ d μ) : wIx X (.tup ds) (.int (-1)) μ Φ := wix_of ix_tup fun F H x y hs r1 r2 Q kt => by
  subst hd
  cases r2
  cases r1 with
  | tup g q =>
    have hsp : ∀ {xs : List V} {l : List D} {d : D}, Reps X.K F xs (l ++ [d]) → ∃ ys v, xs = ys ++ [v] ∧ Rep X.K F v d := fun {xs l d} r => by
      induction l generalizing xs with
      | nil =>
        cases r with
        | cons r rr => cases rr; exact ⟨[], _, rfl, r⟩
      | cons a l ih =>
        cases r with
        | cons r rr =>
          obtain ⟨ys, v, h1, h2⟩ := ih rr
          exact ⟨_ :: ys, v, by rw [h1]; rfl, h2⟩
    obtain ⟨ys, v, rfl, rv⟩ := hsp q
    exact ⟨_, _, _, v, rfl, rfl, Evl.st_of (hs.ex _ _ g), atI_last, kt.now k hs rv⟩
end
theorem cutD_init (l : List D) (x : D) : cutD (l ++ [x]) none (some (-1)) = l := by
  unfold cutD
  rw [HT.sIx_none, List.drop_zero, Nat.sub_zero]
  have e : HT.sIx (l ++ [x]).length (l ++ [x]).length (some (-1)) = l.length := by
    show (if (-1 : Int) < 0 then ((-1 : Int) + ((l ++ [x]).length : Int)).toNat else min (-1 : Int).toNat (l ++ [x]).length) = l.length
    rw [if_pos (by decide), List.length_append]
    show (-1 + ((l.length + 1 : Nat) : Int)).toNat = l.length
    omega
  rw [e, List.take_append_of_le_length (Nat.le_refl _), List.take_length]
/-! the order of numbers in rows -/
theorem alike_rowI : ∀ u v : List Nat, PySem.W.alikeAll (D.pys (u.map fun a : Nat => D.int a)) (D.pys (v.map fun a : Nat => D.int a)) = true
  | [], _ => by simp [D.pys, PySem.W.alikeAll]
  | _ :: _, [] => by simp [D.pys, PySem.W.alikeAll]
  | a :: u, b :: v => by
    rw [List.map_cons, List.map_cons]
    simp only [D.pys, D.py, PySem.W.alikeAll, PySem.W.alike, Bool.true_and]
    exact alike_rowI u v
abbrev rowTk (u : List Nat) : List PyData := D.pys (u.map fun a : Nat => D.int a)
theorem lt_head {a b : Nat} (u v : List Nat) (h : a < b) : PyProof.Rows.lexLt PyProof.Rows.itemOrd (PySem.W.keyToksAll (rowTk (a :: u))) (PySem.W.keyToksAll (rowTk (b :: v))) = true := by
  have e : PyData.eqv (.int a) (.int b) = false := by
    show ((a : Int) == (b : Int)) = false
    rw [beq_eq_false_iff_ne]
    omega
  show PyProof.Rows.lexLt PyProof.Rows.itemOrd (PySem.W.keyToksAll (D.pys (D.int a :: u.map fun a : Nat => D.int a))) (PySem.W.keyToksAll (D.pys (D.int b :: v.map fun a : Nat => D.int a))) = true
  simp only [D.pys, D.py]
  rw [PySem.W.dataLt_all_no rfl e, PySem.W.dataLt_int]
  exact decide_eq_true (by omega)
theorem lt_tail {a : Nat} (u v : List Nat) : PyProof.Rows.lexLt PyProof.Rows.itemOrd (PySem.W.keyToksAll (rowTk (a :: u))) (PySem.W.keyToksAll (rowTk (a :: v))) = PyProof.Rows.lexLt PyProof.Rows.itemOrd (PySem.W.keyToksAll (rowTk u)) (PySem.W.keyToksAll (rowTk v)) := by
  have e : PyData.eqv (.int a) (.int a) = true := by
    show ((a : Int) == (a : Int)) = true
    rw [beq_iff_eq]
  show PyProof.Rows.lexLt PyProof.Rows.itemOrd (PySem.W.keyToksAll (D.pys (D.int a :: u.map fun a : Nat => D.int a))) (PySem.W.keyToksAll (D.pys (D.int a :: v.map fun a : Nat => D.int a))) = _
  simp only [D.pys, D.py]
  exact PySem.W.dataLt_all_yes rfl e
abbrev lenRow (u : List Nat) : D := .tup [.int (u.length : Nat), .tup (u.map fun a : Nat => .int a)]
theorem alike_lenRow (u v : List Nat) : PySem.W.alike (lenRow u).py (lenRow v).py = true := by
  simp only [D.py, D.pys, PySem.W.alike, PySem.W.alikeAll, Bool.true_and, Bool.and_true]
  exact alike_rowI u v
theorem lt_lenRow_len {u v : List Nat} (h : u.length < v.length) : PySem.W.dataLt (lenRow u).py (lenRow v).py = true := by
  simp only [D.py, D.pys]
  rw [PySem.W.dataLt_tuple, PySem.W.dataLt_all_no rfl (by show ((u.length : Int) == (v.length : Int)) = false; rw [beq_eq_false_iff_ne]; omega), PySem.W.dataLt_int]
  exact decide_eq_true (by omega)
theorem lt_lenRow_same {u v : List Nat} (h : u.length = v.length) : PyProof.Rows.lexLt PyProof.Rows.itemOrd (PySem.W.keyToksAll (rowTk u)) (PySem.W.keyToksAll (rowTk v)) = true → PySem.W.dataLt (lenRow u).py (lenRow v).py = true := by
  intro hh
  simp only [D.py, D.pys]
  rw [PySem.W.dataLt_tuple, PySem.W.dataLt_all_yes rfl (by show ((u.length : Int) == (v.length : Int)) = true; rw [beq_iff_eq, h])]
  have hne : PyData.eqv (PyData.tuple (rowTk u)) (PyData.tuple (rowTk v)) = false := by
    cases e : PyData.eqv (PyData.tuple (rowTk u)) (PyData.tuple (rowTk v)) with
    | false => rfl
    | true =>
      have := ((PySem.W.toks_eqv (.tuple (rowTk u)) (.tuple (rowTk v)) (by simp only [PySem.W.alike]; exact alike_rowI u v)).1 e)
      simp only [PySem.W.keyToks] at this
      rw [this] at hh
      rw [PyProof.Rows.lex_irrefl] at hh
      cases hh
  rw [PySem.W.dataLt_all_no (by simp only [PySem.W.alike]; exact alike_rowI u v) hne, PySem.W.dataLt_tuple]
  exact hh
end Oc

/-! Own layer: a list inside a tuple; comprehensions over a cell. -/
namespace Oc
open PySem PySem.Spec L2
open Evl (Ex)
section
variable {X : Cy} {e : Expr} {ρ : Rho} {μ : Mu} {Φ : D → Mu → Prop} {d1 d2 : D}
/-- a list made here that is a pair's second thing stands still behind e -/
theorem w_fzT2 (h : wE X e ρ μ fun d μ1 => (∃ s p ds μ2, d = .tup [s, .ptr p] ∧ μ1 = (p, .lst ds) :: μ2 ∧ Φ (.tup [s, .lst ds]) μ2) ∨ Φ d μ1) : wE X e ρ μ Φ := fun F σ H hs sl Q kt =>
  h F σ H hs sl Q fun v F1 H1 d μ1 q x1 hs1 r => by
    rcases q with ⟨s, p, ds, μ2, rfl, rfl, q⟩ | q
    · obtain ⟨F2, x2, hs2, r2⟩ := hs1.freeze (i := 0) rfl
      refine kt _ F2 H1 _ _ q (x1.trans x2) hs2 ?_
      have r' := r.mono x2
      cases r' with
      | tup g rq =>
        cases rq with
        | cons ra rq =>
          cases rq with
          | cons rb rq =>
            cases rq
            cases rb
            exact .tup g (.cons ra (.cons r2 .nil))
    · exact kt _ F1 H1 _ _ q x1 hs1 r
theorem o_neTP {s : Str} {q : Addr} {ds : List D} {n m : Nat} (i : Nat) (hm : μ[i]? = some (q, MO.lst ds)) (hu : X.c.A.units + 64 < cLine) (h1 : Lys ds n) (h2 : Ly d2 m) (k : Φ (.bl (!PyData.eqv (D.tup [.str s, .lst ds]).py d2.py)) μ) (hn : n ≤ 60 := by decide) (hk : m ≤ 60 := by decide) (hz : PyData.strOk s = true := by rfl) :
    wOp X (compareOp .NotEq) (.tup [.str s, .ptr q]) d2 μ Φ := wop_of (op_neD hu) fun F H u v hs r1 r2 Q kt => by
  obtain ⟨xs, gx, rx⟩ := hs.lst hm
  have e : (D.lst ds).py = .list (D.pys ds) := by simp only [D.py]
  have hp : Dp X.K H (.ref q) (D.lst ds).py := by rw [e]; exact .lst (Evl.sq_of gx) (reps_py hs.ex rx h1.st)
  have e2 : (D.tup [.str s, .lst ds]).py = .tuple [.str s, (D.lst ds).py] := by simp only [D.py, D.pys]
  have hl : Ly (D.tup [.str s, .lst ds]) (n + 2) := ⟨by simp only [D.still, D.stills, h1.st]; rfl, by simp only [D.py, D.pys, PyData.canLay0, PyData.canLayAll0, h1.lay, hz]; rfl, by have := h1.dp; simp only [D.py, D.pys, PyData.depth, PyData.depthAll]; omega⟩
  cases r1 with
  | tup g rq =>
    cases rq with
    | cons ra rq =>
      cases rq with
      | cons rb rq =>
        cases rq
        cases ra
        cases rb
        refine ⟨_, _, ?_, rep_py hs.ex r2 h2.st, hl.shaped (by omega), h2.shaped (by omega), kt.now k hs (.bl _)⟩
        rw [e2]
        exact .tup (Evl.st_of (hs.ex _ _ g)) (.cons (.str _) (.cons hp .nil))
end
section
variable {X : Cy} {elt tg iter : Expr} {ifs : List Expr} {scope : Scope} {t : Tg} {vs : List Nat} {ρ : Rho} {μ μ1 : Mu} {Φ : D → Mu → Prop} {its : List D} {P : Mu → Prop} {pos : Pos} {e : Expr}
/-- the cell of the list that is gone through -/
theorem wi_ptr' {tg : Expr} {ΦI : List D → (Mu → Prop) → Mu → Prop} (h : wE X e ρ μ fun d μ1 => ∃ q, d = .ptr q ∧ ∃ (m : Nat) (ds : List D), μ1[m]? = some (q, MO.lst ds) ∧ ΦI ds (fun μ' => ∃ m : Nat, μ'[m]? = some (q, MO.lst ds)) μ1) : wIP X tg e ρ μ ΦI :=
  wi_ptr (w_mono h fun d μ1 ⟨q, hd, m, ds, hm, k⟩ => ⟨q, ds, hd, ⟨m, hm⟩, k⟩)
abbrev LcQP (X : Cy) (elt : Expr) (ifs : List Expr) (scope : Scope) (t : Tg) (vs : List Nat) (ρ : Rho) (Φ : D → Mu → Prop) (its : List D) (P : Mu → Prop) (μ1 : Mu) : Prop :=
  its.length ≤ 1000000 ∧ ∃ Iv : Nat → List D → Mu → Prop, Iv 0 [] μ1 ∧ (∀ p i acc μ2, Iv i acc μ2 → P ((p, .lst acc) :: μ2)) ∧
    (∀ p i x acc μ2, its[i]? = some x → Iv i acc μ2 → ∃ ρ', t.put x (wipeR ρ vs) = some ρ' ∧ ∀ s H C cl fp, wTs (blkE X scope s H C cl fp) ifs ρ' ((p, .lst acc) :: μ2) fun k μ4 =>
      (k = true → ∀ s H C cl fp, wE (blkE X scope s H C cl fp) elt ρ' μ4 fun d μ5 => ∃ μ6, μ5 = (p, .lst acc) :: μ6 ∧ Iv (i + 1) (acc ++ [d]) μ6) ∧ (k = false → ∃ μ6, μ4 = (p, .lst acc) :: μ6 ∧ Iv (i + 1) acc μ6)) ∧
    (∀ p acc μ2, Iv its.length acc μ2 → Φ (.ptr p) ((p, .lst acc) :: μ2))
def LcWP (X : Cy) (elt tg iter : Expr) (ifs : List Expr) (scope : Scope) (t : Tg) (vs : List Nat) (ρ : Rho) (μ : Mu) (Φ : D → Mu → Prop) : Prop :=
  wIP X tg iter ρ μ fun its P μ1 => LcQP X elt ifs scope t vs ρ Φ its P μ1
theorem lcWP_of (h : wIP X tg iter ρ μ fun its P μ1 => LcQP X elt ifs scope t vs ρ Φ its P μ1) : LcWP X elt tg iter ifs scope t vs ρ μ Φ := h
theorem lc_tP (hv : ∀ j ∈ t.slots, j ∈ vs) (h : LcWP X elt tg iter ifs scope t vs ρ μ Φ) {F : Hp} {σ : L2.St} {H : Hp} (hs : Hs X.K F μ H) (sl : Sl X.K F ρ σ) {Q : VK} (kt : Kont X.K F Φ Q) :
    tLc (sI X tg iter) (t.g X.K) (sTsF X scope ifs) (sEF X scope elt) vs σ H Q := by
  refine h F σ H hs sl _ fun J its P F1 μ1 H1 ⟨hz, Iv, h0, hP, ht, hd⟩ e1 hs1 wk Dl hD => ?_
  refine ⟨fun i m H' => m = its.length - i ∧ i ≤ its.length ∧ ∃ F' acc μ', Ex F1 F' ∧ Hs X.K F' ((Dl, .lst acc) :: μ') H' ∧ acc.length ≤ i ∧ Iv i acc μ', ⟨its.length, by simp, Nat.zero_le _, F1, [], μ1, Ex.refl _, hs1.cell hD (.lst .nil), Nat.le_refl _, h0⟩, ?_⟩
  rintro i m H' ⟨rfl, hi, F', acc, μ', e2, hs2, hl, iv⟩
  obtain ⟨w1, w2, w3⟩ := wk i F' _ H' e2 (hP Dl i acc μ' iv) hs2
  by_cases hlt : i < its.length
  · refine .inr ⟨w1 hlt, fun H3 => ∃ F3 acc3 μ3, Ex F1 F3 ∧ Hs X.K F3 ((Dl, .lst acc3) :: μ3) H3 ∧ acc3.length ≤ i + 1 ∧ Iv (i + 1) acc3 μ3, fun H3 q => ⟨its.length - (i + 1), by omega, rfl, hlt, q⟩, fun x H3 hy => ?_⟩
    have hx : its[i]? = some its[i] := List.getElem?_eq_getElem hlt
    obtain ⟨F3, e3, hs3, r3⟩ := w3 x H3 _ hy hx
    obtain ⟨ρ', hp, ht⟩ := ht Dl i _ acc μ' hx iv
    refine Tg.run hs3 ((sl.mono (e1.trans (e2.trans e3))).wipeL vs) r3 hv hp fun σ' hw sl' => ⟨hw, fun s' H' C cl fp => ?_⟩
    refine (ht s' H' C cl fp).go hs3 sl' fun k F4 H4 μ4 q4 e4 hs4 => ?_
    cases k with
    | true =>
      rw [if_pos rfl]
      refine fun s' H' C cl fp => q4.1 rfl s' H' C cl fp F4 σ' H4 hs4 (sl'.mono e4) _ fun v F5 H5 d μ5 ⟨μ6, h6, iv6⟩ e5 hs5 r5 => ?_
      subst h6
      obtain ⟨xs, hx5, rx5⟩ := hs5.lst (i := 0) rfl
      refine ⟨xs, hx5, Nat.lt_of_le_of_lt ?_ (show 1000000 < sizeLine by decide), F5, acc ++ [d], μ6, e2.trans (e3.trans (e4.trans e5)), hs5.write (i := 0) rfl (.lst (rx5.append (.one r5))), ?_, iv6⟩
      · rw [rx5.length]
        omega
      · rw [List.length_append]
        exact Nat.succ_le_succ hl
    | false =>
      rw [if_neg Bool.false_ne_true]
      obtain ⟨μ6, h6, iv6⟩ := q4.2 rfl
      subst h6
      exact ⟨F4, acc, μ6, e2.trans (e3.trans e4), hs4, Nat.le_succ_of_le hl, iv6⟩
  · have he : i = its.length := by omega
    subst he
    exact .inl ⟨w2 rfl, kt _ F' H' _ _ (hd Dl acc μ' iv) (e1.trans e2) hs2 (.ptr Dl)⟩
theorem w_lcMP {scope : Scope} {own : List (Str × Nat)} (t : Tg) (hv : ∀ j ∈ t.slots, j ∈ own.map (·.2)) (hc : X.calm = true) (hN : X.N.Nodup) (ok : BlkOk X.N X.env.scope scope own)
    (hg : ∀ s H C cl fp, PG (blkE X scope s H C cl fp) tg (t.g X.K)) (h : LcWP X elt tg iter ifs scope t (own.map (·.2)) ρ μ Φ) (hs : ∀ x, foldedSetIterable iter X.env x = pure x := by intro _; rfl) :
    wE X (.ListComp elt [⟨tg, iter, ifs, 0⟩] scope pos) ρ μ Φ := fun F σ H hh sl Q kt =>
  se_of (pe_lc hc hN pi_s ok hg (fun s H C cl fp => ⟨fun pins s' σ H Q I q => q s _ C cl fp pins s' I⟩) (fun s H C cl fp => ⟨fun pins s' σ H Q I q => q s _ C cl fp pins s' I⟩) hs) (lc_tP hv h hh sl kt)
theorem lcq_mapP {α : Type} (l : List α) (f : α → D) (g : α → D) (he : its = l.map f) (hl : l.length ≤ 1000000)
    (ht : ∀ (p : Addr) (i : Nat) (x : α), l[i]? = some x → ∃ ρ', t.put (f x) (wipeR ρ vs) = some ρ' ∧ ∀ s H C cl fp, wE (blkE X scope s H C cl fp) elt ρ' ((p, .lst ((l.take i).map g)) :: μ1) fun d μ5 => d = g x ∧ μ5 = (p, .lst ((l.take i).map g)) :: μ1)
    (hd : ∀ p, Φ (.ptr p) ((p, .lst (l.map g)) :: μ1)) (hP : ∀ p (acc : List D), P ((p, .lst acc) :: μ1) := by intro _ _; first | exact ⟨1, rfl⟩ | exact ⟨2, rfl⟩) : LcQP X elt [] scope t vs ρ Φ its P μ1 := by
  subst he
  refine ⟨by rw [List.length_map]; exact hl, fun i acc μ2 => acc = (l.take i).map g ∧ μ2 = μ1, ⟨rfl, rfl⟩, ?_, ?_, ?_⟩
  · rintro p i acc μ2 ⟨_, rfl⟩
    exact hP _ _
  · rintro p i x acc μ2 hx ⟨rfl, rfl⟩
    obtain ⟨y, hy, rfl⟩ := map_get' hx
    obtain ⟨ρ', h1, h2⟩ := ht p i y hy
    refine ⟨ρ', h1, fun _ _ _ _ _ => ⟨fun _ s H C cl fp => w_mono (h2 s H C cl fp) ?_, fun hb => (nomatch hb)⟩⟩
    rintro d μ5 ⟨rfl, rfl⟩
    exact ⟨_, rfl, by rw [filter_next hy, List.map_append]; rfl, rfl⟩
  · rintro p acc μ2 ⟨rfl, rfl⟩
    rw [List.length_map, List.take_of_length_le (Nat.le_refl _)]
    exact hd p
end
end Oc

/-! Own layer: a op b op' c. -/
namespace Oc
open PySem PySem.Spec L2
open Evl (Ex)
section
variable {X : Cy} {a b c : Expr} {ρ : Rho} {μ : Mu} {Φ : D → Mu → Prop} {pos : Pos}
theorem w_chain {op op' : CmpOp} (h : wE X a ρ μ fun d1 μ1 => wE X b ρ μ1 fun d2 μ2 => wOp X (compareOp op) d1 d2 μ2 fun d3 μ3 => ∃ k, d3 = .bl k ∧ (k = true → wE X c ρ μ3 fun d4 μ4 => wOp X (compareOp op') d2 d4 μ4 Φ) ∧ (k = false → Φ (.bl false) μ3))
    (hm : lastMarks [op, op'] [b, c] = false := by with_unfolding_all rfl) : wE X (.Compare a [op, op'] [b, c] pos) ρ μ Φ := fun F σ H hs sl Q kt =>
  se_of (pe_chain op_s op_s pe_s pe_s pe_s hm) (h F σ H hs sl _ fun x F1 H1 d1 μ1 h1 e1 hs1 r1 => h1 F1 σ H1 hs1 (sl.mono e1) _ fun y F2 H2 d2 μ2 h2 e2 hs2 r2 =>
    h2 F2 H2 x y hs2 (r1.mono e2) r2 _ fun z F3 H3 d3 μ3 h3 e3 hs3 r3 => by
      obtain ⟨k, rfl, ht, hf⟩ := h3
      cases r3
      refine ⟨k, rfl, ?_⟩
      cases k with
      | false =>
        rw [if_neg Bool.false_ne_true]
        exact kt _ F3 H3 _ μ3 (hf rfl) (e1.trans (e2.trans e3)) hs3 (.bl _)
      | true =>
        rw [if_pos rfl]
        exact ht rfl F3 σ H3 hs3 (sl.mono (e1.trans (e2.trans e3))) _ fun w F4 H4 d4 μ4 h4 e4 hs4 r4 => h4 F4 H4 y w hs4 (r2.mono (e3.trans e4)) r4 Q (kt.mono (e1.trans (e2.trans (e3.trans e4)))))
end
end Oc

/-! Own layer: a list's last item; pairs among pairs. -/
namespace Oc
open PySem PySem.Spec L2
open Evl (Ex)
section
variable {X : Cy} {μ : Mu} {Φ : D → Mu → Prop} {d : D}
theorem ix_lstN {ds l : List D} (hd : ds = l ++ [d]) (k : Φ d μ) : wIx X (.lst ds) (.int (-1)) μ Φ := wix_of ix_list fun F H x y hs r1 r2 Q kt => by
  subst hd
  cases r2
  cases r1 with
  | lst g q =>
    have hsp : ∀ {xs : List V} {l : List D} {d : D}, Reps X.K F xs (l ++ [d]) → ∃ ys v, xs = ys ++ [v] ∧ Rep X.K F v d := fun {xs l d} r => by
      induction l generalizing xs with
      | nil =>
        cases r with
        | cons r rr => cases rr; exact ⟨[], _, rfl, r⟩
      | cons a l ih =>
        cases r with
        | cons r rr =>
          obtain ⟨ys, v, h1, h2⟩ := ih rr
          exact ⟨_ :: ys, v, by rw [h1]; rfl, h2⟩
    obtain ⟨ys, v, rfl, rv⟩ := hsp q
    exact ⟨_, _, _, v, rfl, rfl, Evl.sq_of (hs.ex _ _ g), atI_last, kt.now k hs rv⟩
end
theorem eqv_pair (p q : Nat × Nat) : PyData.eqv (natP p).py (natP q).py = decide (p = q) := by
  show PyData.eqv (D.tup [.int p.1, .int p.2]).py (D.tup [.int q.1, .int q.2]).py = _
  have e1 := eqv_int (p.1 : Int) (q.1 : Int)
  have e2 := eqv_int (p.2 : Int) (q.2 : Int)
  simp only [D.py, D.pys, PyData.eqv, PyData.eqvAll] at e1 e2 ⊢
  rw [e1, e2, Bool.and_true, Bool.eq_iff_iff, Bool.and_eq_true, decide_eq_true_iff, decide_eq_true_iff, decide_eq_true_iff]
  constructor
  · rintro ⟨h1, h2⟩; exact Prod.ext (by omega) (by omega)
  · rintro rfl; exact ⟨rfl, rfl⟩
theorem pairs_any (L : List (Nat × Nat)) (r : Nat × Nat) : ((L.map natP).any fun z => PyData.eqv z.py (natP r).py) = decide (r ∈ L) := by
  rw [List.any_map, Bool.eq_iff_iff, List.any_eq_true, decide_eq_true_iff]
  constructor
  · rintro ⟨a, ha, h⟩
    have h : PyData.eqv (natP a).py (natP r).py = true := h
    rw [eqv_pair, decide_eq_true_iff] at h
    subst h
    exact ha
  · exact fun h => ⟨r, h, by show PyData.eqv (natP r).py (natP r).py = true; rw [eqv_pair]; simp⟩
end Oc

/-! Own layer: sorted(set(l)) of a list of ints. -/
namespace Oc
open PySem PySem.Spec L2 PyProof.Rows
open Evl (Ex)
section
variable {P : Program} {w : World} {A : Around} {E : Value → Shared → Prop} {s : Shared}
abbrev bareSet (w : World) : Obj := { cls := .type "set", dict := none, data := .set #[] 0 (.fresh 0 0 (!w.params.followText "set-order")) }
set_option maxHeartbeats 6400000 in
/-- set(l), l a list of ints: the table is known -/
theorem set_of_ints {l : Addr} {items : Array Value} {ns : List Int} {Q : Value → Shared → Prop} (hh : A.handled = none) (hl : s.heap.IsList l items) (hit : IntsAre items.toList ns) (hb : ns.length + 1 < scanBound)
    (h : ∀ (h' : Heap) (tk c : Nat), SetR w h' s.heap.objs.size (fun j => decide (j ∈ ns)) c → c ≤ ns.length → (∀ b o, s.heap.get? b = some o → h'.get? b = some o) → Q (.ref s.heap.objs.size) { s with heap := h', toks := tk }) :
    wpAny (model P w) A (call (.type "set") [.ref l]) Q E s := by
  have hlen : items.size = ns.length := (Array.length_toList (xs := items)).symm.trans hit.length
  obtain ⟨c, tl, hmro⟩ := F.called_set.mro
  have hmade := F.called_set.made
  have hsub := F.called_set.sub
  have h1 := F.called_set.notType
  have h2 := F.called_set.canCreate
  have hct := F.typeCall_set_1 (.ref l)
  have hS : (s.heap.push (bareSet w)).get? s.heap.objs.size = some (bareSet w) := Heap.get?_push_size _ rfl
  refine wpAny_call (codeAny_of_tree ?_)
  show wpAny _ _ (callAny (.type "set") _) _ _ _
  refine wpAny_pure ⟨Code.quiet_builtin _ (by decide +kernel), codeAny_builtin F.entry_type_call ?_⟩
  rw [Around.under_plain (weight_type_call_type "set" [.ref l] []) rfl]
  repeat (any_goals (first | assumption | wp_step))
  refine codeAny_mono (code_set_led1 (.ref l) (E := E) (Q₁ := fun v s₁ => v = .ref s.heap.objs.size ∧ s₁ = { s with heap := s.heap.push (bareSet w) }) ⟨rfl, rfl⟩) fun r s₁ hr => ?_
  cases r with
  | error e => exact hr
  | ok fl =>
    cases fl with
    | ret v =>
      obtain ⟨rfl, rfl⟩ := hr
      have hT : Shared.TypeIs { s with heap := s.heap.push (bareSet w) } (.ref s.heap.objs.size) "set" := ⟨_, hS, rfl⟩
      have hli := F.called_set.init.lookup
      have hbi := F.called_set.init.bind (.ref s.heap.objs.size)
      repeat (any_goals (first | assumption | wp_step))
      refine codeAny_mono (codeAny_call_builtin (R := wants (fun r s₂ => r = .none ∧ ∃ h' tk c, s₂ = { s with heap := h', toks := tk } ∧ SetR w h' s.heap.objs.size (fun j => decide (j ∈ ns)) c ∧ c ≤ ns.length ∧
          (∀ b o, s.heap.get? b = some o → h'.get? b = some o)) E) F.called_set.init.plain F.entry_set_init (check_set_init_1 hT ?_)) fun r₂ s₂ hr₂ => ?_
      · have hl1 : (s.heap.push (bareSet w)).IsList l items := hl.push _
        obtain ⟨⟨ocls, odict, odata, oslots⟩, hol, hcl, nl, hdl⟩ := hl
        simp only at hcl hdl
        subst hcl
        subst hdl
        have hol' := Heap.get?_push_of_some (bareSet w) hol
        have hsls := F.sub_list_set
        have hslf := F.sub_list_frozenset
        have hne : (Value.type "list" == Value.type "dict") = false := by decide
        unfold Builtin.«set.__init__» noKeywords Builtin.Frozenset.updateFrom
        generalize hPI : pyIter = PI
        wp_walk
        subst hPI
        refine wpAny_pyIter_list hl1 ?_
        refine wpAny_bind (wpAny_runValue ?_)
        have hlS : l < s.heap.objs.size := Heap.lt_size hol
        have hh3 : A.in1.in1.in1.handled = none := by simp [hh]
        have hz : (s.heap.push (bareSet w)).objs.size = s.heap.objs.size + 1 := Heap.size_push ..
        have hneI : l ≠ (s.heap.push (bareSet w)).objs.size := by rw [hz]; exact Nat.ne_of_lt (Nat.lt_succ_of_lt hlS)
        have hSf : s.heap.objs.size ∉ [(s.heap.push (bareSet w)).objs.size, l] := by
          rw [hz]
          simp only [List.mem_cons, List.not_mem_nil, or_false, not_or]
          exact ⟨Nat.ne_of_lt (Nat.lt_succ_self _), Nat.ne_of_gt hlS⟩
        have hval : ∀ (i : Nat) (v : Value), items[i]? = some v → ∃ k t, ns[i]? = some k ∧ v = .int k t := fun i v hv => by
          have hi : i < ns.length := by rw [← hlen]; exact (Array.getElem?_eq_some_iff.mp hv).1
          obtain ⟨t, e⟩ := IntsAre.int_at hit i v (by rw [Array.getElem?_toList]; exact hv)
          refine ⟨ns[i], t, List.getElem?_eq_getElem hi, ?_⟩
          rw [e, List.getD_eq_getElem?_getD, List.getElem?_eq_getElem hi] <;> rfl
        refine set_update_ints ((Walks.list hh3 _ l hneI items).toS) s.heap.objs.size hSf ns hlen hb hval (items.size - 0) 0 _ (by omega) (Nat.zero_le _)
          ⟨⟨_, Heap.get?_push_size _ rfl, rfl, rfl⟩, (hl1.push _)⟩ ⟨0, Nat.le_refl 0, setR_new_at (Heap.get?_push_of_some _ hS)⟩ ?_
        intro s' c' hm hc' hS'
        obtain ⟨h', g2, d', tk', os'⟩ := s'
        have eg : g2 = s.gens := hm.gens
        have ed : d' = s.drawn := hm.drawn
        have eo : os' = s.os := hm.os
        subst eg
        subst ed
        subst eo
        show wpAny _ _ _ _ _ _
        refine wpAny_pure ?_
        show wpAny _ _ (ret Value.none) _ _ _
        rw [hlen] at hc'
        refine wpAny_pure ⟨rfl, h', tk', c', rfl, hS', hc', fun b o e => ?_⟩
        have hb0 : b < s.heap.objs.size := Heap.lt_size e
        refine hm.heap b o ?_ (Heap.get?_push_of_some _ (Heap.get?_push_of_some _ e))
        simp only [List.mem_cons, List.not_mem_nil, or_false, not_or]
        exact ⟨Nat.ne_of_lt hb0, by rw [hz]; exact Nat.ne_of_lt (Nat.lt_succ_of_lt hb0)⟩
      · cases r₂ with
        | error e => exact hr₂
        | ok fl₂ =>
          cases fl₂ with
          | ret r =>
            obtain ⟨rfl, h', tk, c', rfl, hS', hc', hk'⟩ := hr₂
            repeat (any_goals (first | assumption | wp_step))
            exact h _ _ _ hS' hc' hk'
          | _ => exact hr₂.elim
    | _ => exact hr.elim
end
section
variable {X : Cy}
def rSetL (K : PySem.W.Frag) (w : World) : List V → Hp → VK → Prop := fun xs H Q => ∃ (l : Addr) (ns : List Int), xs = [V.ref l] ∧ SqL K H l (ns.map V.int) ∧ ns.length < 64 ∧
  ∀ p c, H p = none → c ≤ ns.length → Q (.ref p) (upd H p (SetO w p (fun j => decide (j ∈ ns)) c))
theorem cr_setL (hc : X.calm = true) : CallR X (.type "set") (rSetL X.K X.w) := by
  intro pins s σ H xs us Q I r h
  obtain ⟨l, ns, rfl, hl, hz, q⟩ := h
  rw [Vals.ref1 r]
  obtain ⟨its, rv, pl, hz2⟩ := I.list hl
  have hn : H s.heap.objs.size = none := I.hok.fresh (Nat.le_refl _)
  refine set_of_ints (I.ok.hd hc) pl.isList (by simpa using ints_of_vals rv) (by unfold scanBound; omega) fun h' tk c R hc2 k => ?_
  exact ⟨.ref s.heap.objs.size, upd H s.heap.objs.size (SetO X.w s.heap.objs.size (fun j => decide (j ∈ ns)) c), I.laid (t' := tk) k (Nat.le_refl _) (setO_new R), rfl, q _ c hn hc2⟩
end
end Oc

/-! Own layer: sorted(t) of a tuple of ints, t[::-1], sorted(set(l)). -/
namespace Oc
open PySem PySem.Spec L2 PyProof.Rows
open Evl (Ex)
section
variable {P : Program} {w : World} {A : Around} {E : Value → Shared → Prop} {s : Shared}
theorem sorted_of_tup {t : Addr} {vs : List Value} {ns : List Int} {Q : Value → Shared → Prop} (ht : IsTup s.heap t vs.toArray) (hI : IntsAre vs ns) (h64 : vs.length < 64)
    (hQ : ∀ (h1 h2 : Heap) (out : Array Value) (c : Nat) (ns' : List Int), (∀ b o, s.heap.get? b = some o → h1.get? b = some o) → (∀ b o, h1.get? b = some o → h2.get? b = some o) → h2.get? h1.objs.size = some (seqObj "list" out c) → IntsAre out.toList ns' → ns'.Perm ns → ns'.Pairwise (· ≤ ·) → Q (.ref h1.objs.size) { s with heap := h2 }) :
    wpAny (model P w) A (call (.builtin "sorted") [.ref t]) Q E s := by
  obtain ⟨o, ho, hc, n, hd⟩ := ht
  refine Calls.call_function_entry kind_sorted plain_sorted entry_sorted (args_sorted1 _) ?_
  unfold Builtin.«sorted»
  refine wpAny_bind (m := checkCount "sorted" 1 1 _) (wpAny_pure ?_)
  refine wpAny_bind (wpAny_collect_seq t (T := "tuple") (.inr rfl) ho hc hd (fun h' k => ?_) (by rw [List.size_toArray, sizeLine_eq]; omega))
  have hoL : (h'.push (seqObj "list" vs.toArray 0)).get? h'.objs.size = some (seqObj "list" vs.toArray 0) := Heap.get?_push_size _ rfl
  refine wpAny_bind (wpAny_newList ?_ (by rw [sizeLine_eq]; show vs.length ≤ _; omega))
  refine wpAny_bind (wpAny_holding (wpAny_call_entry slot_list_sort ⟨_, hoL, rfl⟩ entry_list_sort (list_sort_tree hoL hI h64 fun out ns' a1 a2 a3 => ⟨_, rfl, ?_⟩) (args_list_sort _)))
  obtain ⟨c, hc⟩ := sortedHeap_at (vs := vs) (out := out) hoL
  refine wpAny_pure ⟨_, rfl, hQ h' _ out c ns' k (fun b u q => ?_) hc a1 a2 a3⟩
  have hlt := Heap.lt_size q
  show (sortedHeap (h'.push (seqObj "list" vs.toArray 0)) h'.objs.size vs out).get? b = some u
  rw [sortedHeap_old (Nat.ne_of_lt hlt) (by rw [size_push']; exact Nat.lt_succ_of_lt hlt)]
  exact Heap.get?_push_of_some _ q
theorem applied_rev {sl : Addr} {vl vu vs : Value} {n : Nat} {Q : Int × Int × Nat → Shared → Prop} (hs : s.heap.IsSliceOf sl vl vu vs) (pl : IsPart vl none) (pu : IsPart vu none) (ps : IsPart vs (some (-1)))
    (h : Q ((n : Int) - 1, -1, n) s) : wpAny (model P w) A (Builtin.Slice.sliceApplied (.ref sl) (pure (n : Int))) Q E s := by
  obtain ⟨os, hos, hcs, hds⟩ := id hs
  unfold Builtin.Slice.sliceApplied Builtin.Slice.sliceFields
  refine wpAny_bind (wpAny_bind (wpAny_field hos hds (x := vl) rfl (wpAny_bind (wpAny_field hos hds (x := vu) rfl (wpAny_bind (wpAny_field hos hds (x := vs) rfl (wpAny_pure ?_)))))))
  refine wpAny_bind (HT.slicePart_ ps ?_)
  show wpAny _ _ (if ((-1 : Int) == 0) = true then _ else _) _ _ s
  rw [if_neg (by decide)]
  refine wpAny_bind (HT.slicePart_ pl (wpAny_bind (HT.slicePart_ pu (wpAny_bind (wpAny_pure ?_)))))
  have e1 : Builtin.Slice.sliceAdjust none none (-1) (n : Int) = ((n : Int) - 1, -1) := by
    unfold Builtin.Slice.sliceAdjust
    have h1 : (-1 : Int) < 0 := by decide
    simp only [h1, if_true]
  have e2 : Builtin.Slice.slicePlaces ((n : Int) - 1) (-1) (-1) = n := by
    unfold Builtin.Slice.slicePlaces
    have h1 : ¬ ((-1 : Int) > 0) := by decide
    simp only [h1, if_false]
    by_cases hn : n = 0
    · subst hn; rfl
    · rw [if_pos (by omega), show (-(-1) : Int) = 1 by decide, Int.ediv_one]; omega
  show wpAny _ _ (match Builtin.Slice.sliceAdjust none none (-1) (n : Int) with | (lo, hi) => pure (lo, (-1 : Int), Builtin.Slice.slicePlaces lo hi (-1))) _ _ s
  rw [e1]
  show wpAny _ _ (pure ((n : Int) - 1, (-1 : Int), Builtin.Slice.slicePlaces ((n : Int) - 1) (-1) (-1))) _ _ s
  rw [e2]
  exact wpAny_pure h
theorem pick_rev (xs : Array Value) : ((List.range xs.size).filterMap fun (m : Nat) => xs[(((xs.size : Int) - 1) + (m : Int) * -1).toNat]?).toArray = xs.toList.reverse.toArray := by
  rw [← PySem.W.krv_pick xs]
  unfold slicePick
  rw [PySem.W.krv_bounds]
  show _ = ((sliceRange ((xs.size : Int) - 1) (-1) (-1)).filterMap (xs[·]?)).toArray
  rw [PySem.W.krv_sliceRange, List.filterMap_map]
  congr 1
  have cg : ∀ (f g : Nat → Option Value) (l : List Nat), (∀ k ∈ l, f k = g k) → l.filterMap f = l.filterMap g := fun f g l => by
    induction l with
    | nil => intro _; rfl
    | cons a l ih =>
      intro h
      rw [List.filterMap_cons, List.filterMap_cons, h a List.mem_cons_self, ih fun k hk => h k (List.mem_cons_of_mem _ hk)]
  refine cg _ _ _ fun k hk => ?_
  have hk := List.mem_range.mp hk
  show xs[(((xs.size : Int) - 1) + (k : Int) * -1).toNat]? = xs[xs.size - 1 - k]?
  rw [show (((xs.size : Int) - 1) + (k : Int) * -1).toNat = xs.size - 1 - k by omega]
theorem item_tup_rev {t sl : Addr} {items : Array Value} {vl vu vs : Value} {Q : Value → Shared → Prop} (ht : IsTup s.heap t items) (hs : s.heap.IsSliceOf sl vl vu vs) (pl : IsPart vl none) (pu : IsPart vu none) (ps : IsPart vs (some (-1)))
    (h : Q (.ref s.heap.objs.size) { s with heap := s.heap.push { cls := .type "tuple", data := .seq items.toList.reverse.toArray } }) (hsz : items.size ≤ sizeLine) :
    wpAny (model P w) A (getItem (.ref t) (.ref sl)) Q E s := by
  have hok : sizeOk (.seq items.toList.reverse.toArray) := by
    show items.toList.reverse.toArray.size ≤ sizeLine
    rw [List.size_toArray, List.length_reverse, Array.length_toList]
    exact hsz
  obtain ⟨os, hos, hcs, hds⟩ := id hs
  have hTs : s.TypeIs (.ref sl) "slice" := ⟨os, hos, hcs⟩
  unfold getItem
  try with_reducible refine wpAny_holding ?_
  first | refine wpAny_bind (wpAny_pure ?_) | skip
  refine wpAny_bind (wpAny_sequenceKey ht.typeIs (by decide) ?_)
  refine wpAny_bind (wpAny_callSpecial?_slot (name := Str.ofString "__getitem__") ht.typeIs PyProof.Rows.slot_tuple_getitem
    (wpAny_call_entry PyProof.Rows.slot_tuple_getitem ht.typeIs entry_tuple_getitem ?_ (args_tuple_getitem _ _)))
  show wpAny _ _ (Builtin.Tuple.tupleItemsOf (.ref t) >>= _) _ _ s
  refine wpAny_bind (tupleItemsOf_ ht ?_)
  refine wpAny_bind (wpAny_typeOf hTs ?_)
  rw [if_pos (by decide)]
  refine wpAny_bind (applied_rev hs pl pu ps ?_)
  have hno : ¬ (((items.size : Int) - 1 == 0 && (-1 : Int) == 1 && items.size == items.size) = true) := by
    rw [show ((-1 : Int) == 1) = false by decide, Bool.and_false, Bool.false_and]
    exact Bool.false_ne_true
  show wpAny _ _ (if ((items.size : Int) - 1 == 0 && (-1 : Int) == 1 && items.size == items.size) = true then _ else _) _ _ s
  rw [if_neg hno, pick_rev]
  first
    | exact wpAny_bind (m := Builtin.Tuple.tupleExact _) (wpAny_newObj_type (wpAny_pure ⟨_, rfl, wpAny_pure h⟩) hok)
    | exact wpAny_bind (m := Builtin.Tuple.tupleExact _) (wpAny_newObj_type (wpAny_bind (wpAny_pure (wpAny_pure ⟨_, rfl, wpAny_pure h⟩))) hok)
    | exact wpAny_bind (wpAny_bind (m := Builtin.Tuple.tupleExact _) (wpAny_newObj_type (wpAny_pure (wpAny_pure ⟨_, rfl, wpAny_pure h⟩)) hok))
    | exact wpAny_bind (wpAny_bind (m := Builtin.Tuple.tupleExact _) (wpAny_newObj_type (wpAny_pure ⟨_, rfl, wpAny_pure h⟩) hok))
end
section
variable {X : Cy} {e : Expr} {te : TE} {k : Nat} {p1 p2 p3 pos : Pos}
def tRevT (K : PySem.W.Frag) (te : TE) : TE := fun σ H Q => te σ H fun x H1 => ∃ a xs, x = .ref a ∧ SqT K H1 a xs ∧ ∀ p, H1 p = none → Q (.ref p) (upd H1 p (.tup xs.reverse))
theorem pe_revT (he : PE X e te) : PE X (.Subscript e (.Slice none none (some (.UnaryOp .USub (.Constant (.int 1) k p1) p2)) p3) pos) (tRevT X.K te) := by
  refine ⟨fun pins s σ H Q I h => ?_⟩
  refine Subscript_ (thn (he.run pins s σ H _ I h) fun v s1 ⟨x, H1, I1, r1, q1⟩ => ?_)
  obtain ⟨a, xs, ex, hx, q⟩ := q1
  subst ex
  cases r1
  have hst : PO X (some (.UnaryOp .USub (.Constant (.int 1) k p1) p2)) (tPart (tUn (rU fun i => .int (-i)) (tC (.int 1)))) := po_some (pe_un un_neg pe_int)
  refine wpAny_Slice (thn (po_none.run pins s1 σ H1 (fun o H2 => o = none ∧ H2 = H1) I1 ⟨rfl, rfl⟩) fun vl s2 ⟨l, H2, I2, pl, el, e2⟩ => ?_)
  subst el e2
  refine thn (po_none.run pins s2 σ H2 (fun o H3 => o = none ∧ H3 = H2) I2 ⟨rfl, rfl⟩) fun vu s3 ⟨u, H3, I3, pu, eu, e3⟩ => ?_
  subst eu e3
  refine thn (hst.run pins s3 σ H3 (fun o H4 => o = some (-1) ∧ H4 = H3) I3 ⟨1, rfl, -1, rfl, rfl, rfl⟩) fun vs s4 ⟨o, H4, I4, ps, eo, e4⟩ => ?_
  subst eo e4
  have I5 : Inv X pins σ H4 { s4 with heap := s4.heap.push { cls := .type "slice", data := .fields #[vl, vu, vs] } } := I4.kept (t' := s4.toks) fun b ob q => Heap.get?_push_of_some _ q
  obtain ⟨its, r, ht, hz⟩ := I5.tuple hx
  have hlen := r.length
  show wpAny (model X.prog X.w) X.A (subscriptTail e (.Slice none none (some (.UnaryOp .USub (.Constant (.int 1) k p1) p2)) p3) (.ref a) (.ref s4.heap.objs.size)) (EP X pins σ Q) X.xe { s4 with heap := s4.heap.push { cls := .type "slice", data := .fields #[vl, vu, vs] } }
  refine tail_any (ops := [.ref a, .ref s4.heap.objs.size]) ht.typeIs (PyProof.Rows.slot_tuple_getitem.lookup) ?_ (by with_unfolding_all rfl)
  refine item_tup_rev ht (Heap.IsSliceOf.new _ vl vu vs) pl pu ps ?_ (by rw [List.size_toArray]; omega)
  refine ⟨.ref _, _, I5.laid (t' := s4.toks) (o := .tup xs.reverse) (fun b ob q => Heap.get?_push_of_some _ q) (Nat.le_refl _) ?_, rfl, q _ (I5.hok.fresh (Nat.le_refl _))⟩
  exact ⟨by rw [List.length_reverse]; exact hz, _, r.reverse, IsTup.new _ _⟩
def rSortedTI (K : PySem.W.Frag) : List V → Hp → VK → Prop := fun vs H Q => ∃ (a : Addr) (ns : List Int), vs = [V.ref a] ∧ SqT K H a (ns.map V.int) ∧ ns.length < 64 ∧
  ∀ (ns' : List Int) (p : Addr), ns'.Perm ns → ns'.Pairwise (· ≤ ·) → H p = none → Q (.ref p) (upd H p (.lst (ns'.map V.int)))
theorem cr_sortedTI : CallR X (.builtin "sorted") (rSortedTI X.K) := by
  intro pins s σ H vs us Q I r h
  obtain ⟨a, ns, rfl, hs, h64, q⟩ := h
  obtain ⟨its, rv, ht, hz⟩ := I.tuple hs
  rw [Vals.ref1 r]
  have hl : its.length = ns.length := by have := rv.length; rw [List.length_map] at this; omega
  refine sorted_of_tup ht (ints_of_vals rv) (by omega) fun h1 h2 out c ns' k1 k2 hg hi pm pw => ?_
  have I1 : Inv X pins σ H { s with heap := h1 } := I.kept (t' := s.toks) k1
  have hn : H h1.objs.size = none := I1.hok.fresh (Nat.le_refl _)
  have hlen : (ns'.map V.int).length ≤ sizeLine := by rw [List.length_map, pm.length_eq, sizeLine_eq]; omega
  exact ⟨.ref h1.objs.size, upd H h1.objs.size (.lst (ns'.map V.int)), I1.laid (t' := s.toks) k2 (Nat.le_refl _) ⟨hlen, out.toList, c, vals_of_ints hi, hg⟩, rfl, q ns' _ pm pw hn⟩
end
section
variable {X : Cy} {e : Expr} {ρ : Rho} {μ : Mu} {Φ : D → Mu → Prop} {d : D} {k : Nat} {p1 p2 p3 pos pos2 : Pos}
theorem w_revT (h : wE X e ρ μ fun d μ1 => ∃ ds, d = .tup ds ∧ Φ (.tup ds.reverse) μ1) : wE X (.Subscript e (.Slice none none (some (.UnaryOp .USub (.Constant (.int 1) k p1) p2)) p3) pos) ρ μ Φ := fun F σ H hs sl Q kt =>
  se_of (pe_revT pe_s) (h F σ H hs sl _ fun v F1 H1 d μ1 ⟨ds, hd, q⟩ e1 hs1 r1 => by
    subst hd
    cases r1 with
    | tup g r =>
      refine ⟨_, _, rfl, Evl.st_of (hs1.ex _ _ g), fun p hp => ?_⟩
      obtain ⟨g1, g2⟩ := hs1.laid (u := .tup _) hp
      exact kt _ _ _ _ μ1 q (e1.trans g2) g1 (.tup upd_same (r.mono g2).reverse))
theorem c_sortedTI {ns : List Int} (hz : ns.length < 64) (k : ∀ ns' : List Int, ns'.Perm ns → ns'.Pairwise (· ≤ ·) → Φ (.lst (ns'.map D.int)) μ) : wCl X (.builtin "sorted") [.tup (ns.map D.int)] μ Φ :=
  wcl_of cr_sortedTI fun F H xs hs r1 Q kt => by
  cases r1 with
  | cons r rr =>
    cases rr
    cases r with
    | tup g r =>
      refine ⟨_, ns, rfl, by rw [← reps_ints r]; exact Evl.st_of (hs.ex _ _ g), hz, fun ns' q h1 h2 hq => ?_⟩
      obtain ⟨g1, g2⟩ := hs.laid (u := .lst (ns'.map V.int)) hq
      exact kt _ _ _ _ _ (k ns' h1 h2) g2 g1 (.lst upd_same (reps_map (fun n => .int n) ns'))
theorem w_sortedSet (hm : X.mg "sorted" = none) (hm2 : X.mg "set" = none) (h : wE X e ρ μ fun d μ1 => ∃ ns : List Int, d = .lst (ns.map D.int) ∧ ns.length < 64 ∧ ∀ ys : List Int, ys.Pairwise (· < ·) → (∀ k, k ∈ ys ↔ k ∈ ns) → Φ (.lst (ys.map D.int)) μ1)
    (hc : X.calm = true := by rfl) (hg : Gl X "sorted" := by rfl) (hg2 : Gl X "set" := by rfl)
    (he : starEach [Expr.Call (.Name "set" p2) [e] [] pos2] X.env = (false, eval (Expr.Call (.Name "set" p2) [e] [] pos2) X.env) :: starEach [] X.env := by rfl) (he2 : starEach [e] X.env = (false, eval e X.env) :: starEach [] X.env := by rfl) :
    wE X (.Call (.Name "sorted" p1) [.Call (.Name "set" p2) [e] [] pos2] [] pos) ρ μ Φ := fun F σ H hs sl Q kt =>
  se_of (pe_callB (cr_sortedSet hc) hg hm (by decide +kernel) (pa_cons (pe_callTy (cr_setL hc) hg2 hm2 (by decide +kernel) (pa_cons pe_s pa_nil he2) (he := he2)) pa_nil he) (he := he))
    (h F σ H hs sl _ fun v F1 H1 d μ1 ⟨ns, hd, hz, q⟩ e1 hs1 r1 => by
      subst hd
      cases r1 with
      | lst g r =>
        refine ⟨_, ns, rfl, by rw [← reps_ints r]; exact Evl.sq_of (hs1.ex _ _ g), hz, fun p c hp hc2 => ?_⟩
        obtain ⟨g1, g2⟩ := hs1.laid (u := SetO X.w p (fun j => decide (j ∈ ns)) c) hp
        refine ⟨p, _, c, rfl, upd_same, by omega, fun ys p2 hs2 hm3 hl hp2 => ?_⟩
        obtain ⟨g3, g4⟩ := g1.laid (u := .lst (ys.map V.int)) hp2
        exact kt _ _ _ _ _ (q ys hs2 fun k => (hm3 k).trans decide_eq_true_iff) (e1.trans (g2.trans g4)) g3 (.lst upd_same (reps_map (fun n => .int n) ys)))
end
end Oc

/-! Own layer: lists that stand still or cells: len, index, isinstance, comprehensions; l + l into a cell. -/
namespace Oc
open PySem PySem.Spec L2
open Evl (Ex)
section
variable {X : Cy} {μ : Mu} {Φ : D → Mu → Prop} {d : D} {ds : List D}
theorem o_addLC {xs ys : List D} (hc : xs.length + ys.length ≤ 1000000) (k : ∀ p, Φ (.ptr p) ((p, .lst (xs ++ ys)) :: μ)) : wOp X (binaryOp .Add) (.lst xs) (.lst ys) μ Φ := wop_of op_cat fun F H _ _ hs r1 r2 Q kt => by
  cases r1 with
  | lst g1 q1 =>
    cases r2 with
    | lst g2 q2 =>
      have l1 := q1.length
      have l2 := q2.length
      refine ⟨_, _, _, _, rfl, rfl, hs.ex _ _ g1, hs.ex _ _ g2, Nat.le_trans (by omega) (show 1000000 ≤ sizeLine by decide), fun p hp => ?_⟩
      exact kt _ _ _ _ _ (k p) (Ex.refl _) (hs.cell hp (.lst (q1.append q2))) (.ptr p)
theorem c_lenLV (h : LV d μ ds) (k : Φ (.int ds.length) μ) : wCl X (.builtin "len") [d] μ Φ := by
  rcases h with rfl | ⟨q, rfl, m, hm⟩
  · exact c_lenL k
  · exact c_lenP m hm k
theorem c_isiLV {n : String} {k : Bool} (h : LV d μ ds) (hk : PySem.W.kitOne X.K (.type "list") (.type n) = some k) (z : Φ (.bl k) μ) : wCl X (.builtin "isinstance") [d, .ty n] μ Φ := by
  rcases h with rfl | ⟨q, rfl, m, hm⟩
  · exact c_isi rfl hk z
  · exact c_isiP m hm hk z
theorem ix_LV {i : Int} {e : D} (n : Nat) (h : LV d μ ds) (hn : i = (n : Int)) (hd : ds[n]? = some e) (k : Φ e μ) : wIx X d (.int i) μ Φ := by
  rcases h with rfl | ⟨q, rfl, m, hm⟩
  · exact ix_lstD n hn hd k
  · exact ix_ptrD m hm n hn hd k
end
section
variable {X : Cy} {elt tg : Expr} {ifs : List Expr} {scope : Scope} {t : Tg} {vs : List Nat} {ρ : Rho} {μ μ1 : Mu} {Φ : D → Mu → Prop} {its : List D} {e : Expr} {d : D}
theorem wi_lv' {ΦI : List D → (Mu → Prop) → Mu → Prop} (h : wE X e ρ μ fun d μ1 => ∃ d', d = d' ∧ ∃ ds, LV d' μ1 ds ∧ ΦI ds (fun μ' => LV d' μ' ds) μ1) : wIP X tg e ρ μ ΦI :=
  wi_lv (w_mono h fun d μ1 ⟨d', hd, ds, hv, k⟩ => ⟨ds, hd ▸ hv, hd ▸ k⟩)
theorem lcq_mapV {α : Type} (l : List α) (f : α → D) (g : α → D) (he : its = l.map f) (hl : l.length ≤ 1000000)
    (ht : ∀ (p : Addr) (i : Nat) (x : α), l[i]? = some x → ∃ ρ', t.put (f x) (wipeR ρ vs) = some ρ' ∧ ∀ s H C cl fp, wE (blkE X scope s H C cl fp) elt ρ' ((p, .lst ((l.take i).map g)) :: μ1) fun d μ5 => d = g x ∧ μ5 = (p, .lst ((l.take i).map g)) :: μ1)
    (hd : ∀ p, Φ (.ptr p) ((p, .lst (l.map g)) :: μ1)) (hv : LV d μ1 its := by assumption) : LcQP X elt [] scope t vs ρ Φ its (fun μ' => LV d μ' its) μ1 :=
  lcq_mapP l f g he hl ht hd fun p acc => hv.cons _
end
end Oc

/-! Own layer: a op b op' c as a test. -/
namespace Oc
open PySem PySem.Spec L2
open Evl (Ex)
section
variable {X : Cy} {a b c : Expr} {ρ : Rho} {μ : Mu} {ΦT : Bool → Mu → Prop} {pos : Pos}
theorem wt_chain {op op' : CmpOp} (h : wE X a ρ μ fun d1 μ1 => wE X b ρ μ1 fun d2 μ2 => wOp X (compareOp op) d1 d2 μ2 fun d3 μ3 => ∃ k, d3 = .bl k ∧ (k = true → wE X c ρ μ3 fun d4 μ4 => wOp X (compareOp op') d2 d4 μ4 fun d μ5 => ∃ k', d = .bl k' ∧ ΦT k' μ5) ∧ (k = false → ΦT false μ3))
    (hm : lastMarks [op, op'] [b, c] = false := by with_unfolding_all rfl) : wT X (.Compare a [op, op'] [b, c] pos) ρ μ ΦT := fun F σ H hs sl Q kt =>
  st_of (pt_chain op_s op_s pe_s pe_s pe_s hm) (h F σ H hs sl _ fun x F1 H1 d1 μ1 h1 e1 hs1 r1 => h1 F1 σ H1 hs1 (sl.mono e1) _ fun y F2 H2 d2 μ2 h2 e2 hs2 r2 =>
    h2 F2 H2 x y hs2 (r1.mono e2) r2 _ fun z F3 H3 d3 μ3 h3 e3 hs3 r3 => by
      obtain ⟨k, rfl, ht, hf⟩ := h3
      cases r3
      refine ⟨k, rfl, ?_⟩
      cases k with
      | false =>
        rw [if_neg Bool.false_ne_true]
        exact ⟨false, rfl, kt _ F3 H3 μ3 (hf rfl) (e1.trans (e2.trans e3)) hs3⟩
      | true =>
        rw [if_pos rfl]
        exact ht rfl F3 σ H3 hs3 (sl.mono (e1.trans (e2.trans e3))) _ fun w F4 H4 d4 μ4 h4 e4 hs4 r4 => h4 F4 H4 y w hs4 (r2.mono (e3.trans e4)) r4 _ fun v F5 H5 d5 μ5 ⟨k', hd, q⟩ e5 hs5 r5 => by
          subst hd
          cases r5
          exact ⟨k', rfl, kt k' F5 H5 μ5 q (e1.trans (e2.trans (e3.trans (e4.trans e5)))) hs5⟩)
end
end Oc

/-! Own layer: bits of naturals, sum of a list, sorted(set(l)) up to some thousand, sorted rows. -/
namespace Oc
open PySem PySem.Spec L2 PyProof.Rows
open Evl (Ex)
theorem band_nat (a b : Nat) : Builtin.bitAnd (a : Int) (b : Int) = ((a &&& b : Nat) : Int) := by
  rw [bitAnd_pp (by omega) (by omega), Int.toNat_natCast, Int.toNat_natCast]
theorem nat_bor_band (n : Nat) : ∀ a b : Nat, a ≤ n → (a ||| b) + (a &&& b) = a + b := by
  induction n with
  | zero =>
    intro a b h
    rw [show a = 0 by omega, Nat.zero_or, Nat.zero_and]
    omega
  | succ n ih =>
    intro a b h
    by_cases h0 : a = 0
    · subst h0
      rw [Nat.zero_or, Nat.zero_and]
      omega
    have h1 := ih (a / 2) (b / 2) (by omega)
    have e1 : (a ||| b) / 2 = a / 2 ||| b / 2 := Nat.or_div_two
    have e2 : (a &&& b) / 2 = a / 2 &&& b / 2 := Nat.and_div_two
    have e3 : (a ||| b) % 2 = 1 ↔ a % 2 = 1 ∨ b % 2 = 1 := Nat.or_mod_two_eq_one
    have e4 : (a &&& b) % 2 = 1 ↔ a % 2 = 1 ∧ b % 2 = 1 := Nat.and_mod_two_eq_one
    rw [← e1, ← e2] at h1
    omega
theorem bor_nat (a b : Nat) : Builtin.bitOr (a : Int) (b : Int) = ((a ||| b : Nat) : Int) := by
  rw [bitOr_and, band_nat]
  have := nat_bor_band a a b (Nat.le_refl a)
  omega
section
variable {P : Program} {w : World} {A : Around} {E : Value → Shared → Prop} {s : Shared}
theorem sorted_setA {a : Addr} {S : Int → Bool} {n : Nat} {Q : Value → Shared → Prop} (R : SetR w s.heap a S n) (hh : A.handled = none)
    (hQ : ∀ s' p (out : Array Value) (c : Nat) (ns : List Int), (∀ b o, s.heap.get? b = some o → s'.heap.get? b = some o) → s'.gens = s.gens → s'.os = s.os → s.heap.objs.size ≤ p →
      s'.heap.get? p = some (seqObj "list" out c) → IntsAre out.toList ns → ns.Pairwise (· < ·) → (∀ k, k ∈ ns ↔ S k = true) → ns.length = n → Q (.ref p) s') :
    wpAny (model P w) A (call (.builtin "sorted") [.ref a]) Q E s := by
  obtain ⟨o, es, ep, t, ho, hex, hd, g, nd, hm, hb, hf, hn, hr, hl⟩ := R
  refine Calls.call_function_entry kind_sorted plain_sorted entry_sorted (args_sorted1 _) ?_
  unfold Builtin.«sorted»
  refine wpAny_bind (m := checkCount "sorted" 1 1 _) (wpAny_pure ?_)
  refine wpAny_bind (collect_set (A := A.in1) hh ⟨o, ho, hex.1, hd⟩ hf hb hr hl fun s1 vs k1 hz g1 o1 pm => ?_)
  have hvl : vs.length = n := by rw [pm.length_eq, List.length_map, Array.length_toList]; exact hn
  have hI : IntsAre vs (vs.map Builtin.Re.reRawOf) := ints_of vs fun v hv => by
    obtain ⟨e, he, q⟩ := List.mem_map.mp (pm.mem_iff.mp hv)
    obtain ⟨k, tk, h1, _⟩ := g e he
    exact ⟨k, tk, by rw [← q]; exact h1⟩
  have pk : (vs.map Builtin.Re.reRawOf).Perm (es.toList.map keyOf) := by
    have q := pm.map Builtin.Re.reRawOf
    rw [List.map_map] at q
    exact q
  have hz' : vs.length ≤ sizeLine := by rw [hvl, sizeLine_eq]; unfold scanBound at hb; omega
  refine wpAny_bind (wpAny_newList ?_ (by show vs.length ≤ _; exact hz'))
  have hoL : (s1.heap.push (seqObj "list" vs.toArray 0)).get? s1.heap.objs.size = some (seqObj "list" vs.toArray 0) := Heap.get?_push_size _ rfl
  refine wpAny_bind (wpAny_holding (wpAny_call_entry slot_list_sort ⟨_, hoL, rfl⟩ entry_list_sort (SrtO.list_sort_ord SrtO.swo_int hoL hz' (fun h2 => SrtO.ints_sortable hI h2) fun out b1 b2 => ⟨_, rfl, ?_⟩) (args_list_sort _)))
  obtain ⟨a1, a2, a3⟩ := SrtO.ints_out hI b1 b2
  obtain ⟨c, hc⟩ := sortedHeap_at (vs := vs) (out := out.toArray) hoL
  have pn : (out.map SrtO.iv).Perm (es.toList.map keyOf) := a2.trans pk
  refine wpAny_pure ⟨_, rfl, hQ _ s1.heap.objs.size out.toArray c (out.map SrtO.iv) (fun b u e => ?_) g1 o1 hz hc a1 (lt_of_le_nodup _ a3 (pn.nodup_iff.mpr nd)) (fun k => by rw [pn.mem_iff, ← hm k]) ?_⟩
  · have q := k1 b u e
    have hlt := Heap.lt_size q
    show (sortedHeap (s1.heap.push (seqObj "list" vs.toArray 0)) s1.heap.objs.size vs out.toArray).get? b = some u
    rw [sortedHeap_old (Nat.ne_of_lt hlt) (by rw [size_push']; exact Nat.lt_succ_of_lt hlt)]
    exact Heap.get?_push_of_some _ q
  · rw [pn.length_eq, List.length_map, Array.length_toList]; exact hn
end
section
variable {X : Cy}
def rSetA (K : PySem.W.Frag) (w : World) : List V → Hp → VK → Prop := fun xs H Q => ∃ (l : Addr) (ns : List Int), xs = [V.ref l] ∧ SqL K H l (ns.map V.int) ∧ ns.length ≤ 4094 ∧
  ∀ p c, H p = none → c ≤ ns.length → Q (.ref p) (upd H p (SetO w p (fun j => decide (j ∈ ns)) c))
theorem cr_setA (hc : X.calm = true) : CallR X (.type "set") (rSetA X.K X.w) := by
  intro pins s σ H xs us Q I r h
  obtain ⟨l, ns, rfl, hl, hz, q⟩ := h
  rw [Vals.ref1 r]
  obtain ⟨its, rv, pl, hz2⟩ := I.list hl
  have hn : H s.heap.objs.size = none := I.hok.fresh (Nat.le_refl _)
  refine set_of_ints (I.ok.hd hc) pl.isList (by simpa using ints_of_vals rv) (by unfold scanBound; omega) fun h' tk c R hc2 k => ?_
  exact ⟨.ref s.heap.objs.size, upd H s.heap.objs.size (SetO X.w s.heap.objs.size (fun j => decide (j ∈ ns)) c), I.laid (t' := tk) k (Nat.le_refl _) (setO_new R), rfl, q _ c hn hc2⟩
def rSortedSetA (w : World) : List V → Hp → VK → Prop := fun vs H Q => ∃ (a : Addr) (S : Int → Bool) (n : Nat), vs = [V.ref a] ∧ H a = some (SetO w a S n) ∧ n ≤ 4094 ∧
  ∀ (ns : List Int) (p : Addr), ns.Pairwise (· < ·) → (∀ k : Int, k ∈ ns ↔ S k = true) → ns.length = n → H p = none → Q (.ref p) (upd H p (.lst (ns.map V.int)))
theorem cr_sortedSetA (hc : X.calm = true) : CallR X (.builtin "sorted") (rSortedSetA X.w) := by
  intro pins s σ H vs us Q I r h
  obtain ⟨a, S, n, rfl, ha, h64, q⟩ := h
  have R := setO_get I ha
  rw [Vals.ref1 r]
  refine sorted_setA R (I.ok.hd hc) fun s' p out c ns k g o hp hg hi hs hm hl => ?_
  have hlen : (ns.map V.int).length ≤ sizeLine := by rw [List.length_map, hl, sizeLine_eq]; omega
  have hn : H p = none := I.hok.fresh hp
  have J : Inv X pins σ (upd H p (.lst (ns.map V.int))) { s with heap := s'.heap, gens := s'.gens, drawn := s'.drawn, toks := s'.toks } :=
    I.call (ch := []) (Un.laid k hp hn) (I.hok.laid k hp ⟨hlen, out.toList, c, vals_of_ints hi, hg⟩) (by rw [g]; exact I.bare) (fun _ z => nomatch z)
  have e : s' = { s with heap := s'.heap, gens := s'.gens, drawn := s'.drawn, toks := s'.toks } := by
    cases s'
    cases s
    cases o
    rfl
  rw [e]
  exact ⟨.ref p, _, J, rfl, q ns p hs hm hl hn⟩
end
section
variable {X : Cy} {e : Expr} {ρ : Rho} {μ : Mu} {Φ : D → Mu → Prop} {d : D} {k : Nat} {p1 p2 p3 pos pos2 : Pos}
theorem w_sortedSetA (hm : X.mg "sorted" = none) (hm2 : X.mg "set" = none) (h : wE X e ρ μ fun d μ1 => ∃ ns : List Int, d = .lst (ns.map D.int) ∧ ns.length ≤ 4094 ∧ ∀ ys : List Int, ys.Pairwise (· < ·) → (∀ k, k ∈ ys ↔ k ∈ ns) → Φ (.lst (ys.map D.int)) μ1)
    (hc : X.calm = true := by rfl) (hg : Gl X "sorted" := by rfl) (hg2 : Gl X "set" := by rfl)
    (he : starEach [Expr.Call (.Name "set" p2) [e] [] pos2] X.env = (false, eval (Expr.Call (.Name "set" p2) [e] [] pos2) X.env) :: starEach [] X.env := by rfl) (he2 : starEach [e] X.env = (false, eval e X.env) :: starEach [] X.env := by rfl) :
    wE X (.Call (.Name "sorted" p1) [.Call (.Name "set" p2) [e] [] pos2] [] pos) ρ μ Φ := fun F σ H hs sl Q kt =>
  se_of (pe_callB (cr_sortedSetA hc) hg hm (by decide +kernel) (pa_cons (pe_callTy (cr_setA hc) hg2 hm2 (by decide +kernel) (pa_cons pe_s pa_nil he2) (he := he2)) pa_nil he) (he := he))
    (h F σ H hs sl _ fun v F1 H1 d μ1 ⟨ns, hd, hz, q⟩ e1 hs1 r1 => by
      subst hd
      cases r1 with
      | lst g r =>
        refine ⟨_, ns, rfl, by rw [← reps_ints r]; exact Evl.sq_of (hs1.ex _ _ g), hz, fun p c hp hc2 => ?_⟩
        obtain ⟨g1, g2⟩ := hs1.laid (u := SetO X.w p (fun j => decide (j ∈ ns)) c) hp
        refine ⟨p, _, c, rfl, upd_same, by omega, fun ys p2 hs2 hm3 hl hp2 => ?_⟩
        obtain ⟨g3, g4⟩ := g1.laid (u := .lst (ys.map V.int)) hp2
        exact kt _ _ _ _ _ (q ys hs2 fun k => (hm3 k).trans decide_eq_true_iff) (e1.trans (g2.trans g4)) g3 (.lst upd_same (reps_map (fun n => .int n) ys)))
theorem c_sumI {ns : List Int} (k : Φ (.int ns.sum) μ) (hc : X.calm = true := by rfl) : wCl X (.builtin "sum") [.lst (ns.map D.int)] μ Φ :=
  wcl_of (cr_sum hc) fun F H xs hs r1 Q kt => by
  cases r1 with
  | cons r rr =>
    cases rr
    cases r with
    | lst g r => exact ⟨_, ns, rfl, by rw [← reps_ints r]; exact Evl.sq_of (hs.ex _ _ g), kt.now k hs (.int _)⟩
/-- sorted(l), l a list of data: the same ones, rising -/
def rSortedR (K : PySem.W.Frag) : List V → Hp → VK → Prop := fun vs H Q => ∃ (a : Addr) (bs : List (V × D)), vs = [V.ref a] ∧ SqL K H a (bs.map Prod.fst) ∧ (∀ b ∈ bs, Dp K H b.1 b.2.py) ∧ PySem.W.AllAlike (bs.map fun b => b.2.py) ∧ PySem.W.Sortable (bs.map fun b => b.2.py) ∧ (∀ b ∈ bs, b.2.py.depth ≤ 8) ∧
  ∀ (bs' : List (V × D)) (p : Addr), bs'.Perm bs → bs'.Pairwise (fun b c => PySem.W.dataLt c.2.py b.2.py = false) → H p = none → Q (.ref p) (upd H p (.lst (bs'.map Prod.fst)))
theorem cr_sortedR (hu : X.c.A.units + 64 < cLine) : CallR X (.builtin "sorted") (rSortedR X.K) := by
  intro pins s σ H vs us Q I r h
  obtain ⟨a, bs, rfl, hs, hd, hal, hk, hdp, q⟩ := h
  obtain ⟨its, rv, hl, hz⟩ := I.list hs
  rw [Vals.ref1 r]
  have each : ∀ {its : List Value} {bs : List (V × D)}, Vals (bs.map Prod.fst) its → (∀ b ∈ bs, Dp X.K H b.1 b.2.py) → PySem.W.EachIs (fun u (b : V × D) => RelV b.1 u) its bs ∧ PySem.W.EachIs (fun u (b : V × D) => ∃ as, Reads s.heap u b.2.py as) its bs := fun {its bs} rv hd => by
    induction bs generalizing its with
    | nil => cases rv; exact ⟨.nil, .nil⟩
    | cons b bs ih =>
      cases rv with
      | cons r rr =>
        obtain ⟨h1, h2⟩ := ih rr fun c hc => hd c (List.mem_cons_of_mem _ hc)
        exact ⟨.cons r h1, .cons (Dp.reads I _ _ _ (hd b List.mem_cons_self) r) h2⟩
  have back : ∀ {its : List Value} {bs : List (V × D)}, PySem.W.EachIs (fun u (b : V × D) => RelV b.1 u) its bs → Vals (bs.map Prod.fst) its := fun {its bs} e => by
    induction e with
    | nil => exact .nil
    | cons h _ ih => exact .cons h ih
  obtain ⟨e1, e2⟩ := each rv hd
  have hzb : bs.length ≤ sizeLine := by rw [List.length_map] at hz; exact hz
  have hpm := List.mergeSort_perm bs (PySem.W.dataLe false fun b : V × D => b.2.py)
  refine PySem.W.sorted_data (enc := fun b : V × D => b.2.py) hl.isList e1 e2 hal hk hzb (fun b hb => by have := hdp b hb; omega) fun out hlo eo => ?_
  obtain ⟨ep, he'⟩ := PyProof.Rows.sortedAll_at s.heap its out.toArray
  have hlen : ((bs.mergeSort (PySem.W.dataLe false fun b : V × D => b.2.py)).map Prod.fst).length ≤ sizeLine := by rw [List.length_map, hpm.length_eq]; exact hzb
  have hsrt : (bs.mergeSort (PySem.W.dataLe false fun b : V × D => b.2.py)).Pairwise (fun b c => PySem.W.dataLt c.2.py b.2.py = false) := by
    have h := PySem.W.sort_pairwise (PySem.W.sortLe_total (listOrd itemOrd) false fun b : V × D => PySem.W.keyToks b.2.py) bs
    refine List.Pairwise.imp (fun {b c} h => ?_) h
    have h : (!PySem.W.dataLt c.2.py b.2.py) = true := h
    simpa using h
  exact ⟨.ref _, upd H (s.heap.objs.size + 1) (.lst ((bs.mergeSort (PySem.W.dataLe false fun b : V × D => b.2.py)).map Prod.fst)), I.laid (t' := s.toks) (fun _ _ => PyProof.Rows.sortedAll_old) (Nat.le_succ _) ⟨hlen, out, ep, back eo, he'⟩, rfl, q _ _ hpm hsrt (I.hok.fresh (Nat.le_succ _))⟩
theorem c_sortedR {ds : List D} (hu : X.c.A.units + 64 < cLine) (hy : ∀ d ∈ ds, Ly d 8) (hal : ∀ d ∈ ds, ∀ e ∈ ds, PySem.W.alike d.py e.py = true) (hk : ∀ d ∈ ds, ∃ x r, d.py = .tuple (x :: r))
    (k : ∀ ds' : List D, ds'.Perm ds → ds'.Pairwise (fun b c => PySem.W.dataLt c.py b.py = false) → Φ (.lst ds') μ) : wCl X (.builtin "sorted") [.lst ds] μ Φ :=
  wcl_of (cr_sortedR hu) fun F H vs hs r1 Q kt => by
  cases r1 with
  | cons r rr =>
    cases rr
    cases r with
    | lst g r =>
      rename_i a xs
      have zips : ∀ {xs : List V} {ds : List D}, Reps X.K F xs ds → ∃ zs : List (V × D), zs.map Prod.fst = xs ∧ zs.map Prod.snd = ds ∧ ∀ z ∈ zs, Rep X.K F z.1 z.2 := fun {xs ds} r => by
        induction ds generalizing xs with
        | nil => cases r; exact ⟨[], rfl, rfl, fun z hz => (nomatch hz)⟩
        | cons d ds ih =>
          cases r with
          | cons r rr =>
            obtain ⟨zs, h1, h2, h3⟩ := ih rr
            refine ⟨(_, d) :: zs, by rw [List.map_cons, h1], by rw [List.map_cons, h2], fun z hz => ?_⟩
            rcases List.mem_cons.mp hz with rfl | hz
            · exact r
            · exact h3 z hz
      obtain ⟨zs, rfl, rfl, hz⟩ := zips r
      have hm : ∀ z ∈ zs, z.2 ∈ zs.map Prod.snd := fun z hz => List.mem_map.mpr ⟨z, hz, rfl⟩
      have back : ∀ {F1 : Hp} (l : List (V × D)), (∀ z ∈ l, Rep X.K F1 z.1 z.2) → Reps X.K F1 (l.map Prod.fst) (l.map Prod.snd) := fun {F1} l h => by
        induction l with
        | nil => exact .nil
        | cons z l ih => exact .cons (h z List.mem_cons_self) (ih fun y hy => h y (List.mem_cons_of_mem _ hy))
      refine ⟨_, zs, rfl, Evl.sq_of (hs.ex _ _ g), fun z hz' => rep_py hs.ex (hz z hz') (hy _ (hm z hz')).st, ?_, ?_, fun z hz' => (hy _ (hm z hz')).dp, fun zs' q hp hs' hq => ?_⟩
      · intro d hd d' hd'
        obtain ⟨z, hz1, rfl⟩ := List.mem_map.mp hd
        obtain ⟨z', hz2, rfl⟩ := List.mem_map.mp hd'
        exact hal _ (hm z hz1) _ (hm z' hz2)
      · refine .inl fun d hd => ?_
        obtain ⟨z, hz1, rfl⟩ := List.mem_map.mp hd
        exact hk _ (hm z hz1)
      · obtain ⟨g1, g2⟩ := hs.laid (u := .lst (zs'.map Prod.fst)) hq
        exact kt _ _ _ _ _ (k (zs'.map Prod.snd) (hp.map _) (List.pairwise_map.mpr hs')) g2 g1 (.lst upd_same (back zs' fun z hz1 => (hz z (hp.mem_iff.mp hz1)).mono g2))
end
end Oc

/-! Own layer: refusals: defs that may raise, raise, try .. except. -/
namespace Oc
open PySem PySem.Spec L2
open Evl (Ex)
/-- what is wanted of a refusal: its class, its fields, the cells -/
abbrev XW := Addr → List Str → List D → Mu → Prop
/-- what a refusal's dict holds -/
inductive ExR (K : PySem.W.Frag) (F : Hp) : Option Addr → List Str → List D → Prop
  | no : ExR K F none [] []
  | fs {d : Addr} {kvs : List (Str × V)} {ks : List Str} {vs : List D} : F d = some (.xd kvs) → kvs.map (·.1) = ks → Reps K F (kvs.map (·.2)) vs → ks ≠ [] → ExR K F (some d) ks vs
theorem ExR.mono {K : PySem.W.Frag} {F F' : Hp} {d : Option Addr} {ks : List Str} {vs : List D} (e : Ex F F') : ExR K F d ks vs → ExR K F' d ks vs
  | .no => .no
  | .fs h e2 r ne => .fs (e _ _ h) e2 (r.mono e) ne
def KontX (K : KF) (F : Hp) (Ψ : XW) (E : XK) : Prop := ∀ C d ks vs F' H' μ', Ψ C ks vs μ' → ExR K F' d ks vs → Ex F F' → Hs K F' μ' H' → E (.ref C) d H'
theorem KontX.mono {K : KF} {F F' : Hp} (e : Ex F F') {Ψ : XW} {E : XK} (k : KontX K F Ψ E) : KontX K F' Ψ E := fun C d ks vs F1 H1 μ1 h r x => k C d ks vs F1 H1 μ1 h r (e.trans x)
/-- what leaves X is taken, at slots and cells -/
def Tk (X : Cy) (Ψ : Addr → List Str → List D → Rho → Mu → Prop) : Prop := ∃ W : WX, Takes X W ∧ ∀ C d ks vs F σ H ρ μ, Ψ C ks vs ρ μ → ExR X.K F d ks vs → Hs X.K F μ H → Sl X.K F ρ σ → W (.ref C) d σ H
theorem Tk.imp {X : Cy} {Ψ Ψ' : Addr → List Str → List D → Rho → Mu → Prop} (t : Tk X Ψ) (h : ∀ C ks vs ρ μ, Ψ' C ks vs ρ μ → Ψ C ks vs ρ μ) : Tk X Ψ' := by
  obtain ⟨W, h1, h2⟩ := t
  exact ⟨W, h1, fun C d ks vs F σ H ρ μ q => h2 C d ks vs F σ H ρ μ (h _ _ _ _ _ q)⟩
abbrev FX := List D → Mu → (D → Mu → Prop) → XW → Prop
def spX (K : PySem.W.Frag) (S : FX) : Sp := fun vs H Q E => ∃ (g F : Hp) (ds : List D) (μ : Mu) (Φ : D → Mu → Prop) (Ψ : XW), Hs ⟨K, g⟩ F μ H ∧ Reps K F vs ds ∧ S ds μ Φ Ψ ∧ Kont ⟨K, g⟩ F Φ Q ∧ KontX ⟨K, g⟩ F Ψ E
theorem Hs.regr {K : KF} {F H : Hp} {μ : Mu} (h : Hs K F μ H) {g : Hp} (e : Ex g F) : Hs ⟨K.k, g⟩ F μ H := ⟨h.ex, h.nd, h.mu, e⟩
/-- a def's promise, where it may raise -/
structure FnX (P : Program) (w : World) (K : PySem.W.Frag) (mg : Str → Option Value) (base : Heap) (k : Nat) (f : Addr) (fd : FuncData) (ps : List Str) (S : FX) : Prop where
  len : ∀ ds μ Φ Ψ, S ds μ Φ Ψ → ds.length = ps.length
  run : ∀ (A : Around) (outer : List Env) (s : Shared) (H : Hp) (args : Args) (us : List Value) (vs : List V) (Q : VK) (E : XK), Rm k A → Env0 P w K mg base A outer s H → BindsTo s fd args (ps.zip us) → Vals vs us → spX K S vs H Q E →
    codeAny (model P w) A (.call (.ref f) args) (CR (L2.CX P w) outer P w H s Q E) s
theorem spX_len {K : PySem.W.Frag} {S : FX} {n : Nat} (len : ∀ ds μ Φ Ψ, S ds μ Φ Ψ → ds.length = n) {vs : List V} {H : Hp} {Q : VK} {E : XK} (h : spX K S vs H Q E) : vs.length = n := by
  obtain ⟨_, _, ds, μ, Φ, Ψ, _, r, q, _⟩ := h
  exact r.length.trans (len ds μ Φ Ψ q)
section
variable {X : Cy} {k : Nat} {f : Addr} {fd : FuncData} {ps : List Str} {S : FX}
theorem fnX_run {pins : List (Addr × Obj)} {σ : L2.St} {H : Hp} {s : Shared} {Q : VK} {E : XK} {us : List Value} {vs : List V} (F : FnX X.prog X.w X.K X.mg X.base k f fd ps S) (hr : Rm k X.A) (hb : Binds X.K fd ps []) (hx : ∀ e s', L2.CX X.prog X.w X.stack H s E e s' → X.xe e s') (I : Inv X pins σ H s) (r : Vals vs us) (h : spX X.K S vs H Q E) :
    wpAny (model X.prog X.w) X.A (call (.ref f) us) (EP X pins σ Q) X.xe s := by
  have n1 : (us ++ []).length = ps.length := by rw [List.append_nil, ← r.length]; exact spX_len F.len h
  have b1 := hb s us I.kIn n1
  rw [List.append_nil] at b1
  refine wpAny_call (codeAny_mono (F.run X.A X.stack s H ⟨us, []⟩ us vs Q E hr I.env0 b1 r h) fun res s2 hq => ?_)
  rcases res with e | fl
  · exact hx e s2 hq
  · cases fl <;> first | exact I.after hq | exact False.elim hq
end
section
open PyProof.Rows
variable {P : Program} {w : World} {K : PySem.W.Frag} {mg : Str → Option Value} {base : Heap}
theorem fnX_ofC {x : Str} {st : Stmt} {f : Addr} {fd : FuncData} {N ps : List Str} {k : Nat} {S : FX} (F : Fun K x x st f fd) (Sc : FnScope N ps (defScope st)) (len : ∀ ds μ Φ Ψ, S ds μ Φ Ψ → ds.length = ps.length)
    (body : ∀ (cdv : Value), fd.code = cdv → ∀ (A : Around) (outer : List Env) (s : Shared) (H : Hp) (E : XK) (g : Hp), Rm k (A.deeper (envOfC x (defScope st) s.heap.objs.size f cdv)) → ∀ ds μ Φ Ψ, S ds μ Φ Ψ →
      Tk ⟨cxOf (L2.CX P w) P w K mg base N x (defScope st) f cdv A outer s H E, g⟩ (fun C ks vs _ μ' => Ψ C ks vs μ') → PassesOwn (model P w) (A.deeper (envOfC x (defScope st) s.heap.objs.size f cdv)) (envOfC x (defScope st) s.heap.objs.size f cdv) (cxOf (L2.CX P w) P w K mg base N x (defScope st) f cdv A outer s H E).xe →
      wSs ⟨cxOf (L2.CX P w) P w K mg base N x (defScope st) f cdv A outer s H E, g⟩ (defBody st) (rho N ds) μ { nx := fun _ μ' => Φ .non μ', rt := Φ }) : FnX P w K mg base (k + 1) f fd ps S := by
  obtain ⟨oc, od, kV, doc, pm, an, cdv, ct, osl, rfl, lk, hcd⟩ := F.ex
  refine ⟨len, fun A outer s H args us vs Q E hr e0 hb r hsp => ?_⟩
  have hl := spX_len len hsp
  have kS : K.In s.heap := e0.mod.kin.keeps fun b o e => (e0.bs b o e).1
  have nl : s.heap.NoLimit := Heap.NoLimit.keeps e0.mod.nolimit fun b o e => (e0.bs b o e).1
  have kinds : ∀ y ∈ ps.zip us, (defScope st).names.lookup y.1 = some .local ∨ ((defScope st).names.lookup y.1 = some .cell ∧ ((cellsFrom (s.heap.objs.size + 1) (defScope st).names []).lookup y.1).isSome = true) := by
    rintro ⟨n, v⟩ hy
    exact (Sc.par n (List.of_mem_zip hy).1).imp id fun q => ⟨q, PySem.W.cellsFrom_some _ _ _ (.inl q)⟩
  refine codeAny_call_function hr.r.depth (kS _ _ lk) rfl Sc.co Sc.gen rfl (PySem.W.codeRec_of kS hcd) (hb _ _ _ _ (wpAny_newFunctionEnv_cells Sc.kind kinds fun env he s1 x1 => ?_))
  subst he
  refine ⟨nl.keeps x1.toInCall.keep, codeAny_func ?_⟩
  have I : Inv (cxOf (L2.CX P w) P w K mg base N x (defScope st) f cdv A outer s H E) [] (L2.start N vs) H s1 := inv_start Sc hr.r.hd e0 hl r x1
  obtain ⟨g, F', ds, μ, Φ, Ψ, hs, rr, q, kt, kx⟩ := hsp
  have tk : Tk ⟨cxOf (L2.CX P w) P w K mg base N x (defScope st) f cdv A outer s H E, F'⟩ (fun C ks vs _ μ' => Ψ C ks vs μ') := by
    refine ⟨fun cls d _ H' => E cls d H', takes_of (X := cxOf (L2.CX P w) P w K mg base N x (defScope st) f cdv A outer s H E) rfl rfl rfl rfl, fun C d ks vs F1 σ1 H1 ρ1 μ1 q1 x1 hs1 sl1 => ?_⟩
    exact kx C d ks vs F1 H1 μ1 q1 x1 hs1.gr (hs1.regr (hs.gr.trans hs1.gr))
  have B := body cdv rfl A outer s H E F' (hr.in _) ds μ Φ Ψ q tk (passes_of (X := cxOf (L2.CX P w) P w K mg base N x (defScope st) f cdv A outer s H E) rfl) F' (L2.start N vs) H (hs.regr (Ex.refl F')) (sl_start rr) { nx := fun _ H' => Q .non H', rt := Q, bk := fun _ _ => False, ct := fun _ _ => False }
    ⟨fun F1 H1 σ1 ρ1 μ1 q e1 hs1 sl1 => kt .non F1 H1 .non μ1 q e1 (hs1.regr (hs.gr.trans e1)) .non, fun v F1 H1 d μ1 q e1 hs1 r1 => kt v F1 H1 d μ1 q e1 (hs1.regr (hs.gr.trans e1)) r1, fun F1 H1 σ1 ρ1 μ1 q => False.elim q, fun F1 H1 σ1 ρ1 μ1 q => False.elim q⟩
  have B2 := (pss_s (X := ⟨cxOf (L2.CX P w) P w K mg base N x (defScope st) f cdv A outer s H E, F'⟩)).run [] s1 (L2.start N vs) H _ I B
  refine wpAny_mono B2 (fun fl s' z => ?_) fun e s' z => z
  have fin : ∀ {σ' : L2.St} {H' : Hp} {v : V} {u : Value}, Inv (cxOf (L2.CX P w) P w K mg base N x (defScope st) f cdv A outer s H E) [] σ' H' s' → RelV v u → Q v H' → CE outer P w H s Q u s' := fun {_ H' v _} J rv q => ⟨v, H', J.os, J.bare, J.base, J.hok, rv, q⟩
  cases fl with
  | next => obtain ⟨_, _, J, q⟩ := z; exact fin (v := .non) (u := .none) J rfl q
  | ret u => obtain ⟨_, _, _, J, rv, q⟩ := z; exact fin J rv q
  | brk => obtain ⟨_, _, _, q⟩ := z; exact q.elim
  | cont => obtain ⟨_, _, _, q⟩ := z; exact q.elim
theorem fnX_of {x : Str} {st : Stmt} {f : Addr} {fd : FuncData} {N ps : List Str} {k : Nat} {S : FX} (F : Fun K x x st f fd) (Sc : FnScope N ps (defScope st)) (len : ∀ ds μ Φ Ψ, S ds μ Φ Ψ → ds.length = ps.length)
    (body : ∀ (cdv : Value) (A : Around) (outer : List Env) (s : Shared) (H : Hp) (E : XK) (g : Hp), Rm k (A.deeper (envOfC x (defScope st) s.heap.objs.size f cdv)) → ∀ ds μ Φ Ψ, S ds μ Φ Ψ →
      Tk ⟨cxOf (L2.CX P w) P w K mg base N x (defScope st) f cdv A outer s H E, g⟩ (fun C ks vs _ μ' => Ψ C ks vs μ') → PassesOwn (model P w) (A.deeper (envOfC x (defScope st) s.heap.objs.size f cdv)) (envOfC x (defScope st) s.heap.objs.size f cdv) (cxOf (L2.CX P w) P w K mg base N x (defScope st) f cdv A outer s H E).xe →
      wSs ⟨cxOf (L2.CX P w) P w K mg base N x (defScope st) f cdv A outer s H E, g⟩ (defBody st) (rho N ds) μ { nx := fun _ μ' => Φ .non μ', rt := Φ }) : FnX P w K mg base (k + 1) f fd ps S :=
  fnX_ofC F Sc len fun cdv _ => body cdv
/-- a def whose promise is shown, where it may raise -/
structure KnX (P : Program) (w : World) (K : PySem.W.Frag) (mg : Str → Option Value) (base : Heap) (k : Nat) (x : Str) (ps : List Str) (S : FX) : Prop where
  ex : ∃ f fd, mg x = some (.ref f) ∧ PySem.W.keepIn K (.ref f) = true ∧ Binds K fd ps [] ∧ FnX P w K mg base k f fd ps S
theorem kn_ofX {x : Str} {st : Stmt} {N ps : List Str} {k : Nat} {S : FX} (B : Src K mg x st ps) (Sc : FnScope N ps (defScope st)) (len : ∀ ds μ Φ Ψ, S ds μ Φ Ψ → ds.length = ps.length)
    (body : ∀ (f : Addr) (cdv : Value) (A : Around) (outer : List Env) (s : Shared) (H : Hp) (E : XK) (g : Hp), Rm k (A.deeper (envOfC x (defScope st) s.heap.objs.size f cdv)) → ∀ ds μ Φ Ψ, S ds μ Φ Ψ →
      Tk ⟨cxOf (L2.CX P w) P w K mg base N x (defScope st) f cdv A outer s H E, g⟩ (fun C ks vs _ μ' => Ψ C ks vs μ') → PassesOwn (model P w) (A.deeper (envOfC x (defScope st) s.heap.objs.size f cdv)) (envOfC x (defScope st) s.heap.objs.size f cdv) (cxOf (L2.CX P w) P w K mg base N x (defScope st) f cdv A outer s H E).xe →
      wSs ⟨cxOf (L2.CX P w) P w K mg base N x (defScope st) f cdv A outer s H E, g⟩ (defBody st) (rho N ds) μ { nx := fun _ μ' => Φ .non μ', rt := Φ }) : KnX P w K mg base (k + 1) x ps S := by
  obtain ⟨f, fd, F, hm, hb⟩ := B.ex
  exact ⟨f, fd, hm, F.kp, hb, fnX_of F Sc len (body f)⟩
end
section
variable {X : Cy} {e : Expr} {es : List Expr} {sts : List Stmt} {ρ : Rho} {μ : Mu} {Φ : D → Mu → Prop} {E : En} {pos p : Pos} {Ψ : Addr → List Str → List D → Rho → Mu → Prop}
theorem tk_none {X : Cy} : Tk X (fun _ _ _ _ _ => False) := ⟨fun _ _ _ _ => False, takes0, fun _ _ _ _ _ _ _ _ _ q => q.elim⟩
/-- a call that may raise -/
theorem w_callX {x : Str} {k k0 : Nat} {ps : List Str} {S : FX} (G : KnX X.prog X.w X.K X.mg X.base k x ps S) (tk : Tk X Ψ) (hr : Rm k0 X.A) (h : wA X (e :: es) ρ μ fun ds μ1 => S ds μ1 Φ fun C ks vs μ2 => Ψ C ks vs ρ μ2) (hk : k ≤ k0 := by decide) (hg : Gl X x := by rfl) (hdb : (x == ("__debug__" : Str)) = false := by decide)
    (he : starEach (e :: es) X.env = (false, eval e X.env) :: starEach es X.env := by rfl) (hpl : (backTo pos (starEach es X.env)).any (·.1) = false := by rfl) : wE X (.Call (.Name x p) (e :: es) [] pos) ρ μ Φ := by
  obtain ⟨f, fd, hm, kp, hb, G⟩ := G.ex
  obtain ⟨W, tW, hW⟩ := tk
  have P1 : PE X (.Call (.Name x p) (e :: es) [] pos) fun σ H Q => sA X (e :: es) σ H fun vs H1 => spX X.K S vs H1 Q fun cls d H2 => W cls d σ H2 := ⟨fun pins s σ H Q I h => wpAny_Call_Name_kw (ld_glob I hg hm
    (PySem.W.callWith_K (h₀ := X.base) I.ok.mod.kin kp (thn (pa_s.run pos pins s σ H _ I h) fun us s1 ⟨vs, H1, I1, r, q⟩ => ⟨I1.kIn, fnX_run G (hr.le hk) hb (fun e s' c => tW e s' (XE.of_call I1 (fun _ _ _ h => h) c)) I1 r q⟩) he hpl) hdb)⟩
  exact fun F σ H hs sl Q kt => se_of P1 (h F σ H hs sl _ fun xs F1 H1 ds μ1 q e1 hs1 r1 => ⟨X.g, F1, ds, μ1, Φ, _, hs1, r1, q, kt.mono e1, fun C d ks vs F2 H2 μ2 z x2 e2 hs2 => hW C d ks vs F2 σ H2 ρ μ2 z x2 hs2 (sl.mono (e1.trans e2))⟩)
/-- raise X('m'), X without own __init__ -/
theorem w_raise {C : Addr} {x m : Str} {j : Nat} {p p2 pos2 : Pos} {bmB : List Value} {B newId initId : String} (tk : Tk X Ψ) (hc : X.calm = true) (F : ExcBaseFacts B newId initId bmB) (q : PySem.W.excIn X.K C bmB newId = true) (gC : X.mg x = some (.ref C)) (kC : PySem.W.keepIn X.K (.ref C) = true) (r : Raises X (.ref C)) (h : Ψ C [] [] ρ μ) (hg : Gl X x := by rfl) (hdb : (x == ("__debug__" : Str)) = false := by decide) :
    wS X (.Raise (some (.Call (.Name x p) [.Constant (.str m) j p2] [] pos)) none pos2) ρ μ E := fun F0 σ H hs sl D kt => by
  obtain ⟨W, tW, hW⟩ := tk
  exact ss_of (ps_raise hc tW (pmk_own F q gC kC r hg hdb)) (hW C none [] [] F0 σ H ρ μ h .no hs sl)
/-- a class by its name -/
theorem w_cls {x : Str} {C : Addr} (gC : X.mg x = some (.ref C)) (k : Φ (.ptr C) μ) (hg : Gl X x := by rfl) (hd : (x == ("__debug__" : Str)) = false := by decide) : wE X (.Name x pos) ρ μ Φ := fun F σ H hs sl Q kt =>
  se_of (pe_glob (v := .ref C) hg gC rfl hd) (kt _ F H _ μ k (Ex.refl F) hs (.ptr C))
end
end Oc

/-! Own layer: try: body, except X as n: suite; the refusal that was caught is a cell that is known. -/
namespace Oc
open PySem PySem.Spec L2 PyProof.Rows
open Evl (Ex)
theorem track {X : Cx} {pins : List (Addr × Obj)} {σ : L2.St} {H : Hp} {s : Shared} {a : Addr} {oe : Obj} {vs : Array Value} (I : Inv X pins σ H s) (ha : s.heap.get? a = some oe) (hd : oe.data = .fields vs) (na : H a = none) (h0 : X.s_0.heap.get? a = none) (nL : a ≠ X.env.locals) (np : ∀ p ∈ X.pn ++ pins, p.1 ≠ a) :
    Inv X pins σ (upd H a (.frz oe (.own a))) s where
  ok := I.ok
  os := I.os
  bare := I.bare
  base := ⟨I.base.keep, I.base.slot, fun b o e n hx => by
      have hb : b ≠ a := fun z => by subst z; rw [h0] at e; cases e
      rw [upd_ne hb]
      exact I.base.free b o e n hx, I.base.there, fun b xs e => by
      have q := I.base.tups b xs e
      rw [upd_ne (ne_of_none q na)]; exact q, fun b o u e => by
      have q := I.base.frzs b o u e
      rw [upd_ne (ne_of_none q na)]; exact q, fun b ps e => by
      obtain ⟨m, q⟩ := I.base.tbls b ps e
      exact ⟨m, by rw [upd_ne (ne_of_none q na)]; exact q⟩⟩
  loc := I.loc
  cell := I.cell
  free := by rw [upd_ne (Ne.symm nL)]; exact I.free
  freeC := fun x c e => by
    have hc : c ≠ a := fun z => by
      subst z
      obtain ⟨v, o, q1, q2⟩ := I.cell x c e
      rw [ha] at q1
      cases q1
      rw [hd] at q2
      cases q2
    rw [upd_ne hc]
    exact I.freeC x c e
  pin := fun p hp => by
    obtain ⟨e, n, r⟩ := I.pin p hp
    exact ⟨e, by rw [upd_ne (np p hp)]; exact n, r⟩
  hok := fun b u e => by
    by_cases hb : b = a
    · subst hb
      rw [upd_same] at e
      cases e
      exact ⟨ha, oe, ha⟩
    · rw [upd_ne hb] at e
      exact (I.hok b u e).stay (fun c v _ q => q) (fun c q => by rw [upd_ne (ne_of_none q na)]; exact q) fun c xs q => by rw [upd_ne (ne_of_none q na)]; exact q
  len := I.len

/-- what the clause 'except x as n' wishes: behind the suite the refusal is known -/
def wAsK (K : PySem.W.Frag) (c : Value) (i : Nat) (ts : Addr → Value → Option Addr → TS) (D : Ends) : WX := fun cls d σ H =>
  PySem.W.exmOne K cls c = some true ∧ ∀ a, H a = none → ts a cls d
    { nx := fun σ' H' => ∀ o, Zc cls d o → (∃ vs, o.data = .fields vs) → H' a = none → D.nx (σ'.set i none) (upd H' a (.frz o (.own a))),
      rt := fun v H' => ∀ o, Zc cls d o → (∃ vs, o.data = .fields vs) → H' a = none → D.rt v (upd H' a (.frz o (.own a))),
      bk := fun σ' H' => ∀ o, Zc cls d o → (∃ vs, o.data = .fields vs) → H' a = none → D.bk (σ'.set i none) (upd H' a (.frz o (.own a))),
      ct := fun σ' H' => ∀ o, Zc cls d o → (∃ vs, o.data = .fields vs) → H' a = none → D.ct (σ'.set i none) (upd H' a (.frz o (.own a))) } (σ.set i (some (.ref a))) H
section
variable {X : Cx} {x n : Str} {c : Value} {i : Nat} {body suite : List Stmt} {b₀ : Stmt} {np pos pos' : Pos} {tb : WX → TS} {ts : Addr → Value → Option Addr → TS}
theorem ps_try_keep (hs : X.stack = X.env :: X.outer) (hf : X.env.frame = some X.env.locals) (hex : X.ex = []) (hN : X.N.Nodup) (hi : X.N[i]? = some n) (hln : X.env.kindOf n = some .local) (hc : Names X x c)
    (hb : ∀ (W : WX) (pn : List (Addr × Obj)) (xe : Value → Shared → Prop), Takes (X.tr pn xe) W → PassesOwn (model X.prog X.w) X.A X.env xe → PSs (X.tr pn xe) body (tb W))
    (hsu : ∀ (a : Addr) (oe : Obj) (cls : Value) (d : Option Addr) (pn : List (Addr × Obj)), Zc cls d oe → (∃ vs, oe.data = .fields vs) → PSs (X.suite a ((a, oe) :: pn)) (b₀ :: suite) (ts a cls d)) :
    PS X (.Try body [.ExceptHandler (some (.Name x np)) (some n) (b₀ :: suite) pos'] [] [] pos) (fun D σ H => tb (wAsK X.K c i ts D) D σ H) := by
  refine ⟨fun pins s σ H D I h => ?_⟩
  have ok := I.ok
  have hfr : X.A.frames = some (X.env :: X.outer) := by rw [ok.frames, hs]
  have hloc : Loc X.env.scope n := .inl hln
  refine wpAny_Try_except ?_
  refine wpAny_mono ((hb (wAsK X.K c i ts D) (X.pn ++ pins) (fun e s₁ => wpAny (model X.prog X.w) X.A (noteFrame e X.env) (fun _ s₂ => wpAny (model X.prog X.w) X.A (setFlight e none) (fun _ s₃ =>
    wpAny (model X.prog X.w) X.A (handleBy e X.env [.ExceptHandler (some (.Name x np)) (some n) (b₀ :: suite) pos']) (SP X pins D) X.xe s₃) X.xe s₂) X.xe s₁) (fun u s' xx => ?_) PassesOwn.looking).run [] s σ H D (I.toTry _) h) (fun f s1 hsp => ?_) (fun e s1 he => he)
  · obtain ⟨a, B, sI, pins', σ', H', cls, d, rfl, J', nb, up, sky, na, os, ag, hb1, hyes⟩ := xx
    have J : Inv X pins σ' H' sI := J'.ofTry ok
    have sky' : Sky B (X.env :: X.outer) a (Zc cls d) X.env.locals s'.heap := by rw [← hs]; exact sky
    show wpAny (model X.prog X.w) X.A (noteFrame (.ref a) X.env) _ _ _
    refine Sky.land Zc.steady hfr hf sky' fun h3 fl3 up3 => ?_
    have J3 : Inv X pins σ' H' { s' with heap := h3 } := J.landed nb fl3.1 (up.trans up3) os ag
    obtain ⟨oe3, vs3, he3, hz3, hd3⟩ := fl3.there
    have notFr : ∀ {h : Heap} {o : Obj} {vs : Array Value}, h.FunFrames B (X.env :: X.outer) → h.get? a = some o → o.data = .fields vs → a ∉ frs (X.env :: X.outer) := fun {h o vs} ff e dd hm => by
      obtain ⟨_, o', e', hnf⟩ := ff.mem hm
      rw [e] at e'; cases e'
      exact hnf _ dd
    have nfr := notFr fl3.2.2.1 he3 hd3
    have nL : a ≠ X.env.locals := fun z => nfr (List.mem_filterMap.mpr ⟨X.env, List.mem_cons_self, by rw [hf, z]⟩)
    have nF : a ∉ X.fs := fun hm => by
      obtain ⟨e, he, q⟩ := List.mem_filterMap.mp hm
      exact nfr (List.mem_filterMap.mpr ⟨e, List.mem_cons_of_mem _ he, q⟩)
    have nB : B.get? a = none := fl3.2.1
    have nfs : a ∉ frs X.stack := by rw [hs]; exact nfr
    have h0 : X.s_0.heap.get? a = none := by
      cases e : X.s_0.heap.get? a with
      | none => rfl
      | some o =>
        obtain ⟨o', q⟩ := J.base.there a o e (by rw [hex]; exact fun z => nomatch z)
        have := nb a o' q nfs
        rw [nB] at this
        cases this
    have np' : ∀ p ∈ X.pn ++ pins, p.1 ≠ a := fun p hp z => by
      obtain ⟨e, _, h1, h2, _⟩ := J.pin p hp
      have : p.1 ∉ frs X.stack := fun hm => by
        rcases List.mem_cons.mp (J.stkSub _ hm) with y | y
        · exact h1 y
        · exact h2 y
      have := nb _ _ e this
      rw [z, nB] at this
      cases this
    have S3 := J3.suite he3 hd3 na nL nF
    refine wpAny_handleBy_cons (codeAny_handlers_test ?_) (by intro q; cases q)
    have LT : PySem.W.Looks (model X.prog X.w) h3 (typeOf (.ref a)) cls := fun A Q E s k q => wpAny_typeOf_ref (k _ _ he3) (by rw [hz3.1]; exact q)
    have LM := PySem.W.exm_one (M := model X.prog X.w) (J3.kIn) LT hb1
    have test : ∀ {Q : Value → Shared → Prop} {E : Value → Shared → Prop}, Q c { s' with heap := h3 } → wpAny (model X.prog X.w) (X.A.mark (some (.ref a))) (eval (.Name x np) X.env) Q E { s' with heap := h3 } := fun {Q E} q => by
      obtain ⟨hg, hdbg, hm | ⟨hm, hv, hnn⟩⟩ := hc
      · exact ld_glob (X := X.suite a ((a, oe3) :: (X.pn ++ pins))) S3 hg hm q hdbg
      · exact ld_blt (X := X.suite a ((a, oe3) :: (X.pn ++ pins))) S3 hg hm hv q hnn hdbg
    refine test (LM.here ?_)
    refine codeAny_handlers_suite_as ?_
    refine HandSPX.lands_againZ fl3 fun h4 fl4 up4 => ?_
    have J4 : Inv X pins σ' H' { s' with heap := h4 } := J.landed nb fl4.1 ((up.trans up3).trans up4) os ag
    obtain ⟨oe4, vs4, he4, hz4, hd4⟩ := fl4.there
    have S4 := J4.suite he4 hd4 na nL nF
    refine store_ok (X := X.suite a ((a, oe4) :: (X.pn ++ pins))) (v := .ref a) S4 hN hi hloc rfl (fun s5 S5 => ?_) (.inr hln)
    refine wpAny_mono ((hsu a oe4 cls d (X.pn ++ pins) hz4 ⟨_, hd4⟩).run [] s5 _ H' _ S5 (hyes a na)) (fun f s6 hsp => ?_) (fun _ _ z => False.elim z)
    have end_ : ∀ {σ6 : L2.St} {H6 : Hp} {Q : Shared → Prop}, Inv (X.suite a ((a, oe4) :: (X.pn ++ pins))) [] σ6 H6 s6 → (H6 a = none → ∀ s7, Inv X pins (σ6.set i none) (upd H6 a (.frz oe4 (.own a))) s7 → Q s7) →
        wpAny (model X.prog X.w) X.A (do bindName X.env n .none; unbindBehindTheSuite X.env n pos') (fun _ s7 => Q s7) X.xe s6 := fun {σ6 H6 Q} S6 hq => by
      obtain ⟨g1, g2, _⟩ := S6.pin (a, oe4) (List.mem_append_left _ List.mem_cons_self)
      exact gone_ok (track (S6.unsuite ok) g1 hd4 g2 h0 nL np') hN hi hln (hq g2)
    cases f with
    | next =>
      obtain ⟨σ6, H6, S6, q6⟩ := hsp
      exact end_ S6 fun g s7 J7 => ⟨_, _, J7, q6 oe4 hz4 ⟨_, hd4⟩ g⟩
    | brk =>
      obtain ⟨σ6, H6, S6, q6⟩ := hsp
      exact end_ S6 fun g s7 J7 => ⟨_, _, J7, q6 oe4 hz4 ⟨_, hd4⟩ g⟩
    | cont =>
      obtain ⟨σ6, H6, S6, q6⟩ := hsp
      exact end_ S6 fun g s7 J7 => ⟨_, _, J7, q6 oe4 hz4 ⟨_, hd4⟩ g⟩
    | ret u =>
      obtain ⟨v6, σ6, H6, S6, r6, q6⟩ := hsp
      exact end_ S6 fun g s7 J7 => ⟨_, _, _, J7, r6, q6 oe4 hz4 ⟨_, hd4⟩ g⟩
  · cases f with
    | next =>
      obtain ⟨σ', H', J', q⟩ := hsp
      exact wpAny_execs_nil ⟨σ', H', J'.ofTry ok, q⟩
    | brk =>
      obtain ⟨σ', H', J', q⟩ := hsp
      exact ⟨σ', H', J'.ofTry ok, q⟩
    | cont =>
      obtain ⟨σ', H', J', q⟩ := hsp
      exact ⟨σ', H', J'.ofTry ok, q⟩
    | ret u =>
      obtain ⟨v, σ', H', J', r, q⟩ := hsp
      exact ⟨v, σ', H', J'.ofTry ok, r, q⟩
end
theorem ExR.rep {K : PySem.W.Frag} {F : Hp} {C : Addr} {d : Option Addr} {ks : List Str} {vs : List D} (r : ExR K F d ks vs) {o : Obj} {fs : Array Value} {u : HO} (hz : Zc (.ref C) d o) (hd : o.data = .fields fs) : RepO K F (.exc C ks vs) (.frz o u) := by
  cases r with
  | no => exact .exc hz.1 hz.2 hd
  | fs h e r ne => exact .excF hz.1 hz.2 hd h e r ne
section
variable {X : Cy} {x n : Str} {c : Value} {i : Nat} {body suite : List Stmt} {b₀ : Stmt} {ρ : Rho} {μ : Mu} {E : En} {np pos pos' : Pos}
theorem w_tryAsG (i : Nat) (Ψ : Addr → List Str → List D → Rho → Mu → Prop) (hN : X.N.Nodup) (hi : X.N[i]? = some n) (hln : X.env.kindOf n = some .local) (hc : Names X x c)
    (hb : ∀ pn xe g, Ex X.g g → Tk ⟨X.c.tr pn xe, g⟩ Ψ → PassesOwn (model X.prog X.w) X.A X.env xe → wSs ⟨X.c.tr pn xe, g⟩ body ρ μ E)
    (hsu : ∀ C ks vs ρ' μ', Ψ C ks vs ρ' μ' → PySem.W.exmOne X.K (.ref C) c = some true ∧ ∀ a oe pn, wSs ⟨X.c.suite a ((a, oe) :: pn), X.g⟩ (b₀ :: suite) (ρ'.set i (some (.ptr a))) μ'
      { nx := fun ρ2 μ2 => E.nx (ρ2.set i none) ((a, .exc C ks vs) :: μ2), rt := fun d μ2 => E.rt d ((a, .exc C ks vs) :: μ2), bk := fun ρ2 μ2 => E.bk (ρ2.set i none) ((a, .exc C ks vs) :: μ2), ct := fun ρ2 μ2 => E.ct (ρ2.set i none) ((a, .exc C ks vs) :: μ2) })
    (hstk : X.stack = X.env :: X.outer := by rfl) (hf : X.env.frame = some X.env.locals := by rfl) (hex : X.ex = [] := by rfl) :
    wS X (.Try body [.ExceptHandler (some (.Name x np)) (some n) (b₀ :: suite) pos'] [] [] pos) ρ μ E := fun F σ H hs sl D kt => by
  refine ss_of (ps_try_keep (X := X.c) (np := np) (pos := pos) (pos' := pos') (tb := fun W D σ H => ∀ pn xe, Takes (X.c.tr pn xe) W → PassesOwn (model X.prog X.w) X.A X.env xe → sSs ⟨X.c.tr pn xe, F⟩ body D σ H)
    (ts := fun a cls d D σ H => ∀ oe pn, Zc cls d oe → (∃ vs, oe.data = .fields vs) → sSs ⟨X.c.suite a ((a, oe) :: pn), X.g⟩ (b₀ :: suite) D σ H) hstk hf hex hN hi hln hc
    (fun W pn xe tk po => ⟨fun pins s σ H D I h => h pn xe tk po pins s I⟩) (fun a oe cls d pn hz hd => ⟨fun pins s σ H D I h => h oe pn hz hd pins s I⟩)) ?_
  intro pn xe tk po
  refine hb pn xe F hs.gr ⟨_, tk, ?_⟩ po F σ H (hs.regr (Ex.refl F)) sl D ⟨fun F1 H1 σ1 ρ1 μ1 q e1 hs1 sl1 => kt.nx F1 H1 σ1 ρ1 μ1 q e1 (hs1.regr (hs.gr.trans e1)) sl1, fun v F1 H1 d μ1 q e1 hs1 r1 => kt.rt v F1 H1 d μ1 q e1 (hs1.regr (hs.gr.trans e1)) r1,
    fun F1 H1 σ1 ρ1 μ1 q e1 hs1 sl1 => kt.bk F1 H1 σ1 ρ1 μ1 q e1 (hs1.regr (hs.gr.trans e1)) sl1, fun F1 H1 σ1 ρ1 μ1 q e1 hs1 sl1 => kt.ct F1 H1 σ1 ρ1 μ1 q e1 (hs1.regr (hs.gr.trans e1)) sl1⟩
  intro C d ks vs F1 σ1 H1 ρ1 μ1 q xr hs1 sl1
  obtain ⟨hm, hsu⟩ := hsu C ks vs ρ1 μ1 q
  have e01 : Ex F F1 := hs1.gr
  refine ⟨hm, fun a na oe pn' hz hd => hsu a oe pn' F1 (σ1.set i (some (.ref a))) H1 (hs1.regr (hs.gr.trans e01)) (sl1.set i (.ptr a)) _ ⟨?_, ?_, ?_, ?_⟩⟩
  · rintro F2 H2 σ2 ρ2 μ2 q2 e2 hs2 sl2 o hz' ⟨fs, hd'⟩ na2
    exact kt.nx F2 _ _ _ _ q2 (e01.trans e2) (hs2.cell na2 ((xr.mono e2).rep hz' hd')) (sl2.wipe i)
  · rintro v F2 H2 d2 μ2 q2 e2 hs2 r2 o hz' ⟨fs, hd'⟩ na2
    exact kt.rt v F2 _ _ _ q2 (e01.trans e2) (hs2.cell na2 ((xr.mono e2).rep hz' hd')) r2
  · rintro F2 H2 σ2 ρ2 μ2 q2 e2 hs2 sl2 o hz' ⟨fs, hd'⟩ na2
    exact kt.bk F2 _ _ _ _ q2 (e01.trans e2) (hs2.cell na2 ((xr.mono e2).rep hz' hd')) (sl2.wipe i)
  · rintro F2 H2 σ2 ρ2 μ2 q2 e2 hs2 sl2 o hz' ⟨fs, hd'⟩ na2
    exact kt.ct F2 _ _ _ _ q2 (e01.trans e2) (hs2.cell na2 ((xr.mono e2).rep hz' hd')) (sl2.wipe i)
theorem w_tryAs (i : Nat) (Ψ : Addr → List Str → List D → Rho → Mu → Prop) (hN : X.N.Nodup) (hi : X.N[i]? = some n) (hln : X.env.kindOf n = some .local) (hc : Names X x c)
    (hb : ∀ pn xe g, Tk ⟨X.c.tr pn xe, g⟩ Ψ → PassesOwn (model X.prog X.w) X.A X.env xe → wSs ⟨X.c.tr pn xe, g⟩ body ρ μ E)
    (hsu : ∀ C ks vs ρ' μ', Ψ C ks vs ρ' μ' → PySem.W.exmOne X.K (.ref C) c = some true ∧ ∀ a oe pn, wSs ⟨X.c.suite a ((a, oe) :: pn), X.g⟩ (b₀ :: suite) (ρ'.set i (some (.ptr a))) μ'
      { nx := fun ρ2 μ2 => E.nx (ρ2.set i none) ((a, .exc C ks vs) :: μ2), rt := fun d μ2 => E.rt d ((a, .exc C ks vs) :: μ2), bk := fun ρ2 μ2 => E.bk (ρ2.set i none) ((a, .exc C ks vs) :: μ2), ct := fun ρ2 μ2 => E.ct (ρ2.set i none) ((a, .exc C ks vs) :: μ2) })
    (hstk : X.stack = X.env :: X.outer := by rfl) (hf : X.env.frame = some X.env.locals := by rfl) (hex : X.ex = [] := by rfl) :
    wS X (.Try body [.ExceptHandler (some (.Name x np)) (some n) (b₀ :: suite) pos'] [] [] pos) ρ μ E :=
  w_tryAsG i Ψ hN hi hln hc (fun pn xe g _ => hb pn xe g) hsu hstk hf hex
end
section
variable {X : Cy} {x n : Str} {c : Value} {body suite : List Stmt} {b₀ : Stmt} {ρ : Rho} {μ : Mu} {E : En} {np pos pos' : Pos}
/-- .. where the slots are, when it is raised, as they were ahead of the body -/
theorem w_try1 (i : Nat) (Ψ : XW) (hN : X.N.Nodup) (hi : X.N[i]? = some n) (hln : X.env.kindOf n = some .local) (hc : Names X x c)
    (hb : ∀ pn xe g, Tk ⟨X.c.tr pn xe, g⟩ (fun C ks vs ρ' μ' => ρ' = ρ ∧ Ψ C ks vs μ') → PassesOwn (model X.prog X.w) X.A X.env xe → wSs ⟨X.c.tr pn xe, g⟩ body ρ μ E)
    (hsu : ∀ C ks vs μ', Ψ C ks vs μ' → PySem.W.exmOne X.K (.ref C) c = some true ∧ ∀ a oe pn, wSs ⟨X.c.suite a ((a, oe) :: pn), X.g⟩ (b₀ :: suite) (ρ.set i (some (.ptr a))) μ'
      { nx := fun ρ2 μ2 => E.nx (ρ2.set i none) ((a, .exc C ks vs) :: μ2), rt := fun d μ2 => E.rt d ((a, .exc C ks vs) :: μ2), bk := fun ρ2 μ2 => E.bk (ρ2.set i none) ((a, .exc C ks vs) :: μ2), ct := fun ρ2 μ2 => E.ct (ρ2.set i none) ((a, .exc C ks vs) :: μ2) })
    (hstk : X.stack = X.env :: X.outer := by rfl) (hf : X.env.frame = some X.env.locals := by rfl) (hex : X.ex = [] := by rfl) :
    wS X (.Try body [.ExceptHandler (some (.Name x np)) (some n) (b₀ :: suite) pos'] [] [] pos) ρ μ E :=
  w_tryAs i (fun C ks vs ρ' μ' => ρ' = ρ ∧ Ψ C ks vs μ') hN hi hln hc hb (fun C ks vs ρ' μ' ⟨hρ, h⟩ => by subst hρ; exact hsu C ks vs μ' h) hstk hf hex
/-- .. with what stood still ahead of the body -/
theorem w_try1G (i : Nat) (Ψ : XW) (hN : X.N.Nodup) (hi : X.N[i]? = some n) (hln : X.env.kindOf n = some .local) (hc : Names X x c)
    (hb : ∀ pn xe g, Ex X.g g → Tk ⟨X.c.tr pn xe, g⟩ (fun C ks vs ρ' μ' => ρ' = ρ ∧ Ψ C ks vs μ') → PassesOwn (model X.prog X.w) X.A X.env xe → wSs ⟨X.c.tr pn xe, g⟩ body ρ μ E)
    (hsu : ∀ C ks vs μ', Ψ C ks vs μ' → PySem.W.exmOne X.K (.ref C) c = some true ∧ ∀ a oe pn, wSs ⟨X.c.suite a ((a, oe) :: pn), X.g⟩ (b₀ :: suite) (ρ.set i (some (.ptr a))) μ'
      { nx := fun ρ2 μ2 => E.nx (ρ2.set i none) ((a, .exc C ks vs) :: μ2), rt := fun d μ2 => E.rt d ((a, .exc C ks vs) :: μ2), bk := fun ρ2 μ2 => E.bk (ρ2.set i none) ((a, .exc C ks vs) :: μ2), ct := fun ρ2 μ2 => E.ct (ρ2.set i none) ((a, .exc C ks vs) :: μ2) })
    (hstk : X.stack = X.env :: X.outer := by rfl) (hf : X.env.frame = some X.env.locals := by rfl) (hex : X.ex = [] := by rfl) :
    wS X (.Try body [.ExceptHandler (some (.Name x np)) (some n) (b₀ :: suite) pos'] [] [] pos) ρ μ E :=
  w_tryAsG i (fun C ks vs ρ' μ' => ρ' = ρ ∧ Ψ C ks vs μ') hN hi hln hc hb (fun C ks vs ρ' μ' ⟨hρ, h⟩ => by subst hρ; exact hsu C ks vs μ' h) hstk hf hex
end
/-! ### isinstance of a refusal that was caught -/
theorem isi_exc {X : Cx} {pins : List (Addr × Obj)} {σ : L2.St} {H : Hp} {s : Shared} {C a : Addr} {o : Obj} {u : HO} {fs : Array Value} (I : Inv X pins σ H s) (c : ExcC X.K C) (ha : H a = some (.frz o u)) (h1 : o.cls = .ref C) (h2 : o.dict = none) (h3 : o.data = .fields fs) :
    PySem.W.InstAt s.heap a o C none := by
  obtain ⟨oc, od, oda, osl⟩ := o
  dsimp only at h1 h2 h3
  subst h1 h2 h3
  exact ⟨(I.hok a _ ha).1, rfl, rfl, trivial⟩
section
variable {X : Cy} {μ : Mu} {Φ : D → Mu → Prop} {C a : Addr}
/-- classes as data -/
inductive ClsD : D → Value → Prop where
  | ty (n : String) : ClsD (.ty n) (.type n)
  | own (C : Addr) : ClsD (.ptr C) (.ref C)
theorem ClsD.v {K : PySem.W.Frag} {F : Hp} {d : D} {u : Value} (h : ClsD d u) {v : V} (r : Rep K F v d) : ClsV v u := by
  cases h with
  | ty n => cases r; exact .ty n
  | own C => cases r; exact .own C
theorem ClsD.vs {K : PySem.W.Frag} {F : Hp} : ∀ {ds : List D} {us : List Value}, Paired ClsD ds us → ∀ {vs : List V}, Reps K F vs ds → Paired ClsV vs us
  | _, _, .nil, _, .nil => .nil
  | _, _, .cons h t, _, .cons r rr => .cons (h.v r) (ClsD.vs t rr)
theorem kit_cls_ref {K : PySem.W.Frag} {R Y : Addr} {b : Bool} (hc : PySem.W.isClsIn K Y = true) (ht : PySem.W.typeIn K (.ref Y) = some (.type "type")) (h : PySem.W.subIn K (.ref R) (.ref Y) = some b) : PySem.W.kitCls K (.ref R) (.ref Y) = some b := by
  have e2 : ((PySem.W.clsIn K Y).isSome && PySem.W.typeIn K (.ref Y) == some (.type "type")) = true := by
    have hc' : (PySem.W.clsIn K Y).isSome = true := hc
    rw [hc', ht] <;> rfl
  show (if ((PySem.W.clsIn K Y).isSome && PySem.W.typeIn K (.ref Y) == some (.type "type")) = true then PySem.W.subIn K (.ref R) (.ref Y) else none) = some b
  rw [if_pos e2]
  exact h
theorem kit_ref {K : PySem.W.Frag} {R Y : Addr} {b : Bool} (hs : PySem.W.subIn K (.ref R) (.ref R) = some true) (hc : PySem.W.isClsIn K Y = true) (ht : PySem.W.typeIn K (.ref Y) = some (.type "type")) (h : PySem.W.subIn K (.ref R) (.ref Y) = some b) : PySem.W.kitOne K (.ref R) (.ref Y) = some b := by
  unfold PySem.W.kitOne
  by_cases e : ((Value.ref R == Value.ref Y) = true)
  · rw [if_pos e]
    have e' : Value.ref R = Value.ref Y := beq_iff_eq.mp e
    cases e'
    exact hs.symm.trans h
  · rw [if_neg e]
    exact kit_cls_ref hc ht h
theorem kit_typ {K : PySem.W.Frag} {R : Addr} {T : String} {b : Bool} (hm : PySem.W.kitMeta T = true) (h : PySem.W.subIn K (.ref R) (.type T) = some b) : PySem.W.kitOne K (.ref R) (.type T) = some b := by
  unfold PySem.W.kitOne
  rw [if_neg (show ¬ ((Value.ref R == Value.type T) = true) from fun e => by cases beq_iff_eq.mp e)]
  show (if PySem.W.kitMeta T = true then PySem.W.subIn K (.ref R) (.type T) else none) = some b
  rw [if_pos hm]
  exact h
theorem exm_of {K : PySem.W.Frag} {R Y : Addr} {b : Bool} (h1 : PySem.W.subIn K (.ref Y) (.type "BaseException") = some true) (hc : PySem.W.isClsIn K Y = true) (ht : PySem.W.typeIn K (.ref Y) = some (.type "type")) (h : PySem.W.subIn K (.ref R) (.ref Y) = some b) : PySem.W.exmOne K (.ref R) (.ref Y) = some b := by
  have e1 : (PySem.W.subIn K (.ref Y) (.type "BaseException") == some true) = true := by rw [h1] <;> rfl
  show (if (PySem.W.subIn K (.ref Y) (.type "BaseException") == some true) = true then PySem.W.kitCls K (.ref R) (.ref Y) else none) = some b
  rw [if_pos e1]
  exact kit_cls_ref hc ht h
theorem ka_no {K : PySem.W.Frag} {t c : Value} {cs : List Value} {r : Bool} (h : PySem.W.kitOne K t c = some false) (hr : PySem.W.kitAny K t cs = some r) : PySem.W.kitAny K t (c :: cs) = some r := kitAny_cons h (fun _ => hr) (fun z => nomatch z)
theorem ka_yes {K : PySem.W.Frag} {t c : Value} {cs : List Value} (h : PySem.W.kitOne K t c = some true) : PySem.W.kitAny K t (c :: cs) = some true := kitAny_cons h (fun z => nomatch z) (fun _ => rfl)
theorem c_isE {c : D} {cv : Value} {b : Bool} (m : Nat) (hm : μ[m]? = some (a, .exc C [] [])) (hC : ExcC X.K C) (hc : ClsD c cv) (hk : PySem.W.kitOne X.K (.ref C) cv = some b) (k : Φ (.bl b) μ) : wCl X (.builtin "isinstance") [.ptr a, c] μ Φ := by
  intro F H xs hs r1 Q kt pins s σ us I rv
  cases r1 with
  | cons r rr =>
  cases rr with
  | cons r2 rr =>
  cases rr
  cases r
  obtain ⟨u1, u2, rfl, ru1, ru2⟩ := vals2 rv
  cases (show u1 = Value.ref a from ru1)
  have e2 := (hc.v r2).eq ru2
  subst e2
  obtain ⟨_, u, hu, ro⟩ := hs.at_ hm
  cases ro with
  | exc h1 h2 h3 => exact PySem.W.kia_one (PySem.W.handS_kitx_exc hC.hg hC.hk hC.hs hC.hd hC.ha hC.hn hC.ht hC.hm) I.kIn (isi_exc I hC hu h1 h2 h3) hk (fun z => nomatch z) fun tk => ⟨.bl b, H, I.tok tk, rfl, kt.now k hs (.bl b)⟩
  | excF h1 h2 h3 h4 h5 h6 ne => exact absurd rfl ne
theorem c_isET {cs : List D} {us : List Value} {b : Bool} (m : Nat) (hm : μ[m]? = some (a, .exc C [] [])) (hC : ExcC X.K C) (hc : Paired ClsD cs us) (hk : PySem.W.kitAny X.K (.ref C) us = some b) (k : Φ (.bl b) μ) : wCl X (.builtin "isinstance") [.ptr a, .tup cs] μ Φ := by
  intro F H xs hs r1 Q kt pins s σ ws I rv
  cases r1 with
  | cons r rr =>
  cases rr with
  | cons r2 rr =>
  cases rr
  cases r
  cases r2 with
  | tup g rs =>
  obtain ⟨u1, u2, rfl, ru1, ru2⟩ := vals2 rv
  cases (show u1 = Value.ref a from ru1)
  rename_i tp vs
  cases (show u2 = Value.ref tp from ru2)
  obtain ⟨_, its, rvs, oo, h1, h2, n, h3⟩ := (show ObjOk X.prog X.w H s.heap tp (.tup vs) from I.hok tp _ (hs.ex _ _ g))
  have e3 := ClsV.all (ClsD.vs hc rs) rvs
  subst e3
  obtain ⟨oc, od, dt, sl⟩ := oo
  simp only at h2 h3
  subst h2 h3
  obtain ⟨_, u, hu, ro⟩ := hs.at_ hm
  cases ro with
  | exc g1 g2 g3 => exact PySem.W.kia_tup (PySem.W.handS_kitx_exc hC.hg hC.hk hC.hs hC.hd hC.ha hC.hn hC.ht hC.hm) I.kIn (isi_exc I hC hu g1 g2 g3) h1 hk (fun z => nomatch z) fun tk => ⟨.bl b, H, I.tok tk, rfl, kt.now k hs (.bl b)⟩
  | excF h1 h2 h3 h4 h5 h6 ne => exact absurd rfl ne
end
end Oc

/-! Own layer: lists of lists that may change, turned about, beside a list without things. -/
namespace Oc
open PySem PySem.Spec L2
open Evl (Ex)
section
variable {X : Cx}
def rEqLen : R2 := fun x y H Q => ∃ a b, ∃ xs ys : List V, x = .ref a ∧ y = .ref b ∧ H a = some (.lst xs) ∧ H b = some (.lst ys) ∧ xs.length ≠ ys.length ∧ Q (.bl false) H
theorem op_eqLen (hu : X.A.units < cLine) : OpR X (compareOp .Eq) rEqLen := by
  intro pins s σ H x y v u Q I rx ry h
  obtain ⟨a, b, xs, ys, rfl, rfl, hH, hB, hz, q⟩ := h
  cases rx
  cases ry
  obtain ⟨z, its, n, r, hl, e⟩ := I.lstM hH
  obtain ⟨z2, its2, n2, r2, hl2, e2⟩ := I.lstM hB
  refine (SeqAt.RcAt.lists_lengths ⟨_, e, rfl, _, rfl⟩ ⟨_, e2, rfl, _, rfl⟩ ?_ hu) _ _ _ _ ⟨.bl _, H, I, rfl, q⟩
  have h1 : xs.length = its.length := r.length
  have h2 : ys.length = its2.length := r2.length
  rw [bne_iff_ne, List.size_toArray, List.size_toArray]
  omega
end
section
variable {X : Cy} {μ : Mu} {Φ : D → Mu → Prop} {d : D}
/-- a list a few times, standing still -/
theorem o_repF {ds : List D} {k : Int} (hk : 0 ≤ k ∧ k ≤ 1000) (hz : ds.length ≤ 1000) (q : Φ (.lst (List.replicate k.toNat ds).flatten) μ) : wOp X (binaryOp .Mult) (.lst ds) (.int k) μ Φ := wop_of op_rep fun F H x y hs r1 r2 Q kt => by
  cases r2
  cases r1 with
  | lst g r =>
    have h1 : ds.length * k.toNat ≤ 1000 * 1000 := Nat.mul_le_mul hz (by omega)
    refine ⟨_, k, _, rfl, rfl, hs.ex _ _ g, by omega, by omega, Nat.le_trans (by rw [r.length]; exact h1) (show 1000 * 1000 ≤ sizeLine by decide), fun p hp => ?_⟩
    obtain ⟨s1, s2⟩ := hs.laid (u := .lst _) hp
    exact kt _ _ _ _ _ q s2 s1 (.lst upd_same ((Reps.rep r _).mono s2))
/-- a frozen list of anything beside the list without things -/
theorem o_eqNilL {ds : List D} (hu : X.c.A.units + 64 < cLine) (k : Φ (.bl ds.isEmpty) μ) : wOp X (compareOp .Eq) (.lst ds) (.lst []) μ Φ := by
  cases ds with
  | nil => exact o_eqY hu (Ly.lst (n := 0) .nil) (Ly.lst (n := 0) .nil) (by rw [eqv_lnil]; exact k) (by decide) (by decide)
  | cons d0 ds =>
    refine wop_of (op_eqLen (by omega)) fun F H u v hs r1 r2 Q kt => ?_
    cases r1 with
    | lst g rx =>
      cases r2 with
      | lst g2 rx2 =>
        cases rx2
        refine ⟨_, _, _, _, rfl, rfl, hs.ex _ _ g, hs.ex _ _ g2, ?_, kt.now k hs (.bl _)⟩
        have := rx.length
        rw [List.length_cons] at this
        show _ ≠ 0
        omega
/-- a list cell of anything beside the list without things -/
theorem o_eqNilP {q : Addr} {ds : List D} (m : Nat) (hm : μ[m]? = some (q, MO.lst ds)) (hu : X.c.A.units + 64 < cLine) (k : Φ (.bl ds.isEmpty) μ) : wOp X (compareOp .Eq) (.ptr q) (.lst []) μ Φ := by
  cases ds with
  | nil => exact o_eqP (n := 0) (k0 := 0) m hm hu .nil .nil (by rw [eqv_lnil]; exact k) (by decide) (by decide)
  | cons d0 ds =>
    refine wop_of (op_eqLen (by omega)) fun F H u v hs r1 r2 Q kt => ?_
    cases r1
    obtain ⟨xs, g, rx⟩ := hs.lst hm
    cases r2 with
    | lst g2 rx2 =>
      cases rx2
      refine ⟨_, _, _, _, rfl, rfl, g, hs.ex _ _ g2, ?_, kt.now k hs (.bl _)⟩
      have := rx.length
      rw [List.length_cons] at this
      show _ ≠ 0
      omega
end
section
variable {X : Cy} {elt tg iter : Expr} {ifs : List Expr} {scope : Scope} {t : Tg} {vs : List Nat} {ρ : Rho} {μ μ1 : Mu} {Φ : D → Mu → Prop} {its : List D} {P : Mu → Prop} {pos : Pos} {E : En}
theorem w_setLcP {own : List (Str × Nat)} (i : Nat) {y : Str} {py spos : Pos} (t : Tg) (hv : ∀ j ∈ t.slots, j ∈ own.map (·.2)) (hc : X.calm = true) (hN : X.N.Nodup) (hy : X.N[i]? = some y) (hyl : X.env.scope.names.lookup y = some .local) (ok : BlkOk X.N X.env.scope scope own)
    (hsw : swapsWith (.ListComp elt [⟨tg, iter, ifs, 0⟩] scope pos) (some (.Name y py)) spos.line X.env = pure true)
    (hg : ∀ s H C cl fp, PG (blkE X scope s H C cl fp) tg (t.g X.K)) (h : LcWP X elt tg iter ifs scope t (own.map (·.2)) ρ μ fun d μ1 => ∃ p acc μ2, d = .ptr p ∧ μ1 = (p, .lst acc) :: μ2 ∧ (E.nx (ρ.set i (some (.lst acc))) μ2 ∨ E.nx (ρ.set i (some (.ptr p))) ((p, .lst acc) :: μ2)))
    (hs : ∀ x, foldedSetIterable iter X.env x = pure x := by intro _; rfl) :
    wS X (.Assign [.Name y py] (.ListComp elt [⟨tg, iter, ifs, 0⟩] scope pos) spos) ρ μ E := fun F σ H hh sl D kt =>
  ss_of (ps_setLc hc hN hy hyl hsw pi_s ok hg (fun s H C cl fp => ⟨fun pins s' σ H Q I q => q s _ C cl fp pins s' I⟩) (fun s H C cl fp => ⟨fun pins s' σ H Q I q => q s _ C cl fp pins s' I⟩) hs)
    (lc_tP hv h hh sl (Q := fun x H1 => gName i x σ H1 D.nx) fun v F1 H1 d μ1 ⟨p, acc, μ2, hd, hm, q⟩ e1 hs1 r1 => by
      subst hd
      subst hm
      cases r1
      rcases q with q | q
      · obtain ⟨F2, e2, hs2, r2⟩ := hs1.freeze (i := 0) rfl
        exact kt.nx F2 H1 _ _ _ q (e1.trans e2) hs2 ((sl.mono (e1.trans e2)).set i r2)
      · exact kt.nx F1 H1 _ _ _ q e1 hs1 ((sl.mono e1).set i (.ptr p)))
theorem lcq_filtP {α : Type} {c : Expr} (l : List α) (f : α → D) (q : α → Bool) (g : α → D) (he : its = l.map f) (hl : l.length ≤ 1000000)
    (ht : ∀ (p : Addr) (i : Nat) (x : α), l[i]? = some x → ∃ ρ', t.put (f x) (wipeR ρ vs) = some ρ' ∧ (∀ s H C cl fp, wT (blkE X scope s H C cl fp) c ρ' ((p, .lst (((l.take i).filter q).map g)) :: μ1) fun k μ4 => k = q x ∧ μ4 = (p, .lst (((l.take i).filter q).map g)) :: μ1) ∧
      (q x = true → ∀ s H C cl fp, wE (blkE X scope s H C cl fp) elt ρ' ((p, .lst (((l.take i).filter q).map g)) :: μ1) fun d μ5 => d = g x ∧ μ5 = (p, .lst (((l.take i).filter q).map g)) :: μ1))
    (hd : ∀ p, Φ (.ptr p) ((p, .lst ((l.filter q).map g)) :: μ1)) (hP : ∀ p (acc : List D), P ((p, .lst acc) :: μ1) := by intro _ _; first | exact ⟨1, rfl⟩ | exact ⟨2, rfl⟩) : LcQP X elt [c] scope t vs ρ Φ its P μ1 := by
  subst he
  refine ⟨by rw [List.length_map]; exact hl, fun i acc μ2 => acc = ((l.take i).filter q).map g ∧ μ2 = μ1, ⟨rfl, rfl⟩, ?_, ?_, ?_⟩
  · rintro p i acc μ2 ⟨_, rfl⟩
    exact hP _ _
  · rintro p i x acc μ2 hx ⟨rfl, rfl⟩
    obtain ⟨y, hy, rfl⟩ := map_get' hx
    obtain ⟨ρ', h1, h2, h3⟩ := ht p i y hy
    refine ⟨ρ', h1, fun s H C cl fp => wt_mono (h2 s H C cl fp) ?_⟩
    rintro k μ4 ⟨rfl, rfl⟩
    refine ⟨fun hb s H C cl fp => w_mono (h3 hb s H C cl fp) ?_, fun hb => ⟨_, rfl, fm_no hy hb, rfl⟩⟩
    rintro d μ5 ⟨rfl, rfl⟩
    exact ⟨_, rfl, fm_yes hy hb, rfl⟩
  · rintro p acc μ2 ⟨rfl, rfl⟩
    rw [List.length_map, List.take_of_length_le (Nat.le_refl _)]
    exact hd p
end
end Oc

/-! Own layer: plain tuples (.tpl): tuples made by the text of which it is kept that their object has no dict of its own, so that their methods may be called. -/
namespace Oc
open PySem PySem.Spec L2
open Evl (Ex)
theorem rep_tpl {K : PySem.W.Frag} {F H : Hp} {v : V} {ds : List D} (e : Ex F H) (r : Rep K F v (.tpl ds)) : ∃ a xs, v = .ref a ∧ SqT K H a xs ∧ Reps K F xs ds := by
  cases r with
  | tpl g _ _ q => exact ⟨_, _, rfl, .inl (.inr ⟨_, e _ _ g⟩), q⟩
section
variable {X : Cy} {e a b c o : Expr} {es : List Expr} {ρ : Rho} {μ : Mu} {Φ : D → Mu → Prop} {d d1 d2 : D} {i j : Int} {pos p apos cpos : Pos}
/-! it is made -/
def rTupF (K : PySem.W.Frag) : List V → Hp → VK → Prop := fun xs H Q => ∃ p ys, xs = [.ref p] ∧ SqL K H p ys ∧ ∀ l o, H l = none → o.cls = Value.type "tuple" → o.dict = none → Q (.ref l) (upd H l (.frz o (.tup ys)))
theorem cr_tupF {X : Cx} : CallR X (.type "tuple") (rTupF X.K) := by
  intro pins s σ H xs us Q I r h
  obtain ⟨p, ys, rfl, hq, q⟩ := h
  obtain ⟨u, rfl, rx⟩ := vals1 r
  cases rx
  obtain ⟨its, r', pl, hz⟩ := I.list hq
  have hlen := r'.length
  refine call_tuple_list pl.isList (fun h' kp => ?_) (by simp only [List.size_toArray] <;> omega)
  have I1 : Inv X pins σ H { s with heap := h' } := I.kept (t' := s.toks) kp
  have I2 : Inv X pins σ (upd H h'.objs.size (.frz { cls := .type "tuple", data := .seq its.toArray } (.tup ys))) { s with heap := h'.push { cls := .type "tuple", data := .seq its.toArray } } :=
    I1.laid (t' := s.toks) (fun b o e => Heap.get?_push_of_some _ e) (Nat.le_refl _) (show ObjOk X.prog X.w _ _ _ (.frz _ (.tup ys)) from ⟨Heap.get?_push_size _ rfl, hz, its, r', PyProof.Rows.IsTup.new _ _⟩)
  exact ⟨.ref h'.objs.size, _, I2, rfl, q _ _ (I1.hok.fresh (Nat.le_refl _)) rfl rfl⟩
theorem c_tplL {ds : List D} (k : Φ (.tpl ds) μ) : wCl X (.type "tuple") [.lst ds] μ Φ := wcl_of cr_tupF fun F H xs hs r1 Q kt => by
  cases r1 with
  | cons r rr =>
    cases rr
    cases r with
    | lst g q =>
      refine ⟨_, _, rfl, Evl.sq_of (hs.ex _ _ g), fun p o hp hc hd => ?_⟩
      obtain ⟨s1, s2⟩ := hs.laid (u := .frz o (.tup _)) hp
      exact kt _ _ _ _ _ k s2 s1 (.tpl upd_same hc hd (q.mono s2))
theorem c_tplP {q : Addr} {ds : List D} (m : Nat) (hm : μ[m]? = some (q, .lst ds)) (k : Φ (.tpl ds) μ) : wCl X (.type "tuple") [.ptr q] μ Φ := wcl_of cr_tupF fun F H xs hs r1 Q kt => by
  cases r1 with
  | cons r rr =>
    cases rr
    cases r
    obtain ⟨xs, g, r⟩ := hs.lst hm
    refine ⟨_, _, rfl, Evl.sq_of g, fun p o hp hc hd => ?_⟩
    obtain ⟨s1, s2⟩ := hs.laid (u := .frz o (.tup _)) hp
    exact kt _ _ _ _ _ k s2 s1 (.tpl upd_same hc hd (r.mono s2))
/-! it is read -/
theorem ix_tplD {ds : List D} (n : Nat) (hn : i = (n : Int)) (hd : ds[n]? = some d) (k : Φ d μ) : wIx X (.tpl ds) (.int i) μ Φ := wix_of ix_tup fun F H x y hs r1 r2 Q kt => by
  subst hn
  cases r2
  obtain ⟨_, _, rfl, g, q⟩ := rep_tpl hs.ex r1
  obtain ⟨v, h1, h2⟩ := q.get hd
  exact ⟨_, _, _, v, rfl, rfl, g, atI_nat h1, kt.now k hs h2⟩
theorem c_lenTp {ds : List D} (k : Φ (.int ds.length) μ) : wCl X (.builtin "len") [.tpl ds] μ Φ := wcl_of call_len_seq fun F H xs hs r1 Q kt => by
  cases r1 with
  | cons r rr =>
    cases rr
    obtain ⟨_, _, rfl, g, q⟩ := rep_tpl hs.ex r
    rw [← q.length] at k
    exact ⟨_, _, rfl, .inr g, kt.now k hs (.int _)⟩
theorem o_inTp {w : V} {ds : List D} {ws : List V} (h1 : d.fl = some w) (h2 : D.fls ds = some ws) (k : Φ (.bl (inV w ws)) μ) : wOp X (compareOp .In) d (.tpl ds) μ Φ := wop_of op_in_seq fun F H u v hs r1 r2 Q kt => by
  have e1 := rep_fl r1 h1
  subst e1
  obtain ⟨_, _, rfl, g, q⟩ := rep_tpl hs.ex r2
  have e2 := rep_fls q h2
  subst e2
  exact ⟨_, _, rfl, .inr g, fl_flat h1, fls_flat h2, kt.now k hs (.bl _)⟩
theorem o_ninTp {w : V} {ds : List D} {ws : List V} (h1 : d.fl = some w) (h2 : D.fls ds = some ws) (k : Φ (.bl (!inV w ws)) μ) : wOp X (compareOp .NotIn) d (.tpl ds) μ Φ := wop_of op_notIn_seq fun F H u v hs r1 r2 Q kt => by
  have e1 := rep_fl r1 h1
  subst e1
  obtain ⟨_, _, rfl, g, q⟩ := rep_tpl hs.ex r2
  have e2 := rep_fls q h2
  subst e2
  exact ⟨_, _, rfl, .inr g, fl_flat h1, fls_flat h2, kt.now k hs (.bl _)⟩
/-! it is gone through -/
theorem wi_tpl {tg : Expr} {ΦI : List D → Mu → Prop} (h : wE X e ρ μ fun d μ1 => ∃ ds, d = .tpl ds ∧ ΦI ds μ1) : wI X tg e ρ μ ΦI := fun F σ H hs sl R kt =>
  si_of (pi_tup pe_s) (h F σ H hs sl _ fun v F1 H1 d μ1 ⟨ds, hd, q⟩ e1 hs1 r1 => by
    subst hd
    obtain ⟨a, xs, rfl, g, r⟩ := rep_tpl (Ex.refl _) r1
    refine ⟨a, rfl, ⟨xs, Evl.ex_t hs1.ex g⟩, kt _ ds F1 μ1 H1 q e1 hs1 fun i F' μ' H' e' hs' => ?_⟩
    have g' : SqT X.K H' a xs := Evl.ex_t hs'.ex (Evl.ex_t e' g)
    refine ⟨fun hi => ⟨xs, xs[i]'(by rw [r.length]; exact hi), g', List.getElem?_eq_getElem _⟩, fun hi => ⟨xs, g', by rw [r.length]; exact Nat.le_of_eq hi.symm⟩, fun x H2 d hy hd => ?_⟩
    obtain ⟨rfl, fy⟩ := hy
    obtain ⟨y, h1, h2⟩ := r.get hd
    cases (fy _ g').symm.trans h1
    exact ⟨F', Ex.refl _, hs', h2.mono e'⟩)
theorem wi_enumTp {tpos : Pos} {elts : List Expr} {kk : Nat} {ΦI : List D → Mu → Prop} (hm : X.mg "enumerate" = none) (h : wE X e ρ μ fun d μ1 => ∃ ds, d = .tpl ds ∧ ΦI (enumD ds) μ1) (hg : Gl X "enumerate" := by rfl) (hs : starEach [e] X.env = [(false, eval e X.env)] := by rfl) :
    wI X (.Tuple elts kk tpos) (.Call (.Name "enumerate" p) [e] [] pos) ρ μ ΦI := fun F σ H hh sl R kt =>
  si_of (pi_enumT hg hm (pa_cons pe_s pa_nil hs) hs) (h F σ H hh sl _ fun v F1 H1 d μ1 ⟨ds, hd, q⟩ e1 hs1 r1 => by
    subst hd
    obtain ⟨a, xs, rfl, g, r⟩ := rep_tpl (Ex.refl _) r1
    refine ⟨a, xs, rfl, Evl.ex_t hs1.ex g, kt _ _ F1 μ1 H1 q e1 hs1 fun i F' μ' H' e' hs' => ?_⟩
    have g' : SqT X.K H' a xs := Evl.ex_t hs'.ex (Evl.ex_t e' g)
    rw [enumD_len]
    refine ⟨fun hi => ⟨xs, xs[i]'(by rw [r.length]; exact hi), g', List.getElem?_eq_getElem _⟩, fun hi => ⟨xs, g', by rw [r.length]; exact hi⟩, fun x H2 d hy hd => ?_⟩
    obtain ⟨T, y, rfl, hT, rfl, fy⟩ := hy
    obtain ⟨x', hx', rfl⟩ := enumD_get hd
    obtain ⟨z, h1, h2⟩ := r.get hx'
    cases (fy _ g').symm.trans h1
    obtain ⟨g1, g2⟩ := hs'.laid (u := .tup [.int (i : Nat), y]) hT
    exact ⟨_, g2, g1, .tup upd_same (.cons (.int _) (.cons ((h2.mono e').mono g2) .nil))⟩)
/-! its methods -/
def IsPl (H : Hp) (x : V) : Prop := ∃ a o xs, x = .ref a ∧ H a = some (.frz o (.tup xs)) ∧ o.cls = Value.type "tuple" ∧ o.dict = none
def tBMT (r : V → List V → Hp → VK → Prop) (to : TE) (t : TA) : TE := fun σ H Q => to σ H fun x H1 => IsPl H1 x ∧ t σ H1 fun xs H2 => r x xs H2 Q
theorem pe_bmT {to : TE} {t : TA} {name : Str} {id : String} {r : V → List V → Hp → VK → Prop} (slot : Slot "tuple" name id) (hty : typeOf (.builtin id) = pure (.type "method_descriptor")) (hm : MtR X id r) (ho : PE X o to) (ha : PA X (e :: es) t)
    (hbase : attributeBase o name X.env (eval o X.env) = eval o X.env := by rfl)
    (hfew : ((backTo cpos (starEach (e :: es) X.env)).all (fun x => !x.1) && (backToKw cpos (keywordEach [] X.env)).all (fun x => x.1.isSome)
      && decide ((e :: es).length + ([] : List Keyword).length + (if ([] : List Keyword).isEmpty then 0 else 1) < 30)) = true := by rfl)
    (hline : (apos.endLine == cpos.line) = true := by rfl) (hs : starEach (e :: es) X.env = (false, eval e X.env) :: starEach es X.env := by rfl) (hplain : (backTo cpos (starEach es X.env)).any (·.1) = false := by rfl) :
    PE X (.Call (.Attribute o name apos) (e :: es) [] cpos) (tBMT r to t) := by
  refine ⟨fun pins s σ H Q I h => ?_⟩
  refine wpAny_Call_method_late hbase hfew hline rfl (thn (ho.run pins s σ H _ I h) fun v s1 ⟨x, H1, I1, r1, ty, q1⟩ => ?_)
  obtain ⟨a, ob, ys, rfl, hk, hc, hd⟩ := ty
  cases r1
  obtain ⟨hob, _⟩ := I1.hok a _ hk
  refine ⟨"tuple", id, PySem.F.plainAttrs_tuple, slot, hty, ⟨ob, hob, hc⟩, fun b e2 => (by cases e2; exact ⟨ob, hob, hd⟩), ?_⟩
  have hA := ha.run cpos pins s1 σ H1 _ I1 q1
  rw [hs] at hA ⊢
  refine Calls.callWith_builtin (by show (false || (backTo cpos (starEach es X.env)).any (·.1)) = false; rw [hplain] <;> rfl) (Calls.evalArgs_plain ?_)
  exact thn hA fun us s2 ⟨vs, H2, I2, r2, q2⟩ => hm pins s2 σ H2 (.ref a) vs _ us Q I2 rfl r2 q2
/-- t.index(k), t of ints -/
def rIdxT (K : PySem.W.Frag) : V → List V → Hp → VK → Prop := fun x xs H Q => ∃ p, ∃ ns : List Int, ∃ k : Int, x = .ref p ∧ xs = [.int k] ∧ SqT K H p (ns.map V.int) ∧ k ∈ ns ∧ Q (.int (ns.idxOf k : Nat)) H
theorem mt_idxT {X : Cx} : MtR X "tuple.index" (rIdxT X.K) := by
  intro pins s σ H x xs v us Q I rx rs h
  obtain ⟨p, ns, k, rfl, rfl, hq, hk, q⟩ := h
  cases rx
  obtain ⟨u, rfl, t, rfl⟩ := vals1 rs
  obtain ⟨its, r, pl, hz⟩ := I.tuple hq
  exact SeqAt.tuple_index_ints pl (Vals.ints r) hk ⟨.int _, H, I.tok _, ⟨_, rfl⟩, q⟩
theorem w_indexT (h : wE X o ρ μ fun d μ1 => ∃ ns : List Int, d = .tpl (ns.map D.int) ∧ wE X e ρ μ1 fun d2 μ2 => ∃ k : Int, d2 = .int k ∧ k ∈ ns ∧ Φ (.int (ns.idxOf k : Nat)) μ2)
    (hbase : attributeBase o "index" X.env (eval o X.env) = eval o X.env := by rfl)
    (hfew : ((backTo cpos (starEach [e] X.env)).all (fun x => !x.1) && (backToKw cpos (keywordEach [] X.env)).all (fun x => x.1.isSome)
      && decide (([e] : List Expr).length + ([] : List Keyword).length + (if ([] : List Keyword).isEmpty then 0 else 1) < 30)) = true := by rfl)
    (hline : (apos.endLine == cpos.line) = true := by rfl) (hs : starEach [e] X.env = (false, eval e X.env) :: starEach [] X.env := by rfl) :
    wE X (.Call (.Attribute o "index" apos) [e] [] cpos) ρ μ Φ := fun F σ H hh sl Q kt =>
  se_of (pe_bmT PySem.F.slot_tuple_index PySem.F.type_tuple_index mt_idxT pe_s (pa_cons pe_s pa_nil hs) hbase hfew hline hs rfl) (h F σ H hh sl _ fun u F1 H1 d μ1 ⟨ns, hd, q⟩ e1 hs1 r1 => by
    subst hd
    cases r1 with
    | tpl g hc hd rx =>
      have ev := reps_ints rx
      subst ev
      refine ⟨⟨_, _, _, rfl, hs1.ex _ _ g, hc, hd⟩, q F1 σ H1 hs1 (sl.mono e1) _ fun y F2 H2 d2 μ2 ⟨k, hd2, hk, q2⟩ e2 hs2 r2 => ?_⟩
      subst hd2
      cases r2
      exact ⟨_, ns, k, rfl, rfl, .inl (.inr ⟨_, hs2.ex _ _ (e2 _ _ g)⟩), hk, kt _ F2 H2 _ μ2 q2 (e1.trans e2) hs2 (.int _)⟩)
/-- a list made here that is a pair's first thing stands still behind e -/
theorem w_fzT1 (h : wE X e ρ μ fun d μ1 => ∃ s p ds μ2, d = .tup [.ptr p, s] ∧ μ1 = (p, .lst ds) :: μ2 ∧ Φ (.tup [.lst ds, s]) μ2) : wE X e ρ μ Φ := fun F σ H hs sl Q kt =>
  h F σ H hs sl Q fun v F1 H1 d μ1 q x1 hs1 r => by
    obtain ⟨s, p, ds, μ2, rfl, rfl, q⟩ := q
    obtain ⟨F2, x2, hs2, r2⟩ := hs1.freeze (i := 0) rfl
    refine kt _ F2 H1 _ _ q (x1.trans x2) hs2 ?_
    have r' := r.mono x2
    cases r' with
    | tup g rq =>
      cases rq with
      | cons ra rq =>
        cases ra
        exact .tup g (.cons r2 rq)
end
/-- a sign times a number to ten -/
theorem op_mulC10 {X : Cy} : OpR X (binaryOp .Mult) (fun x y H Q => ∃ (c v : Nat), x = .str ⟨#[c]⟩ ∧ y = .int (v : Int) ∧ v ≤ 10 ∧ Q (.str ⟨(List.replicate v c).toArray⟩) H) := by
  intro pins s σ H x y u w Q I rx ry h
  obtain ⟨c, v, rfl, rfl, hv, q⟩ := h
  obtain ⟨t, rfl⟩ := rx
  obtain ⟨t', rfl⟩ := ry
  by_cases h0 : v = 0
  · subst h0
    exact PySem.P.mul_str_none (by omega) (by omega) ⟨.str _, H, I.tok _, ⟨_, rfl⟩, q⟩
  have hv1 : 1 ≤ v ∧ v ≤ 10 := ⟨by omega, hv⟩
  clear hv h0
  have hl1 : (⟨#[c]⟩ : Str).length = 1 := rfl
  refine PySem.P.mul_str (by rw [decide_eq_false (by omega), decide_eq_false (by omega)]; rfl) (fun _ _ => by rw [hl1]; exact (match v, hv1 with
    | 1, _ => by decide
    | 2, _ => by decide
    | 3, _ => by decide
    | 4, _ => by decide
    | 5, _ => by decide
    | 6, _ => by decide
    | 7, _ => by decide
    | 8, _ => by decide
    | 9, _ => by decide
    | 10, _ => by decide)) (fun _ _ => by rw [hl1]; exact (match v, hv1 with
    | 1, _ => by decide
    | 2, _ => by decide
    | 3, _ => by decide
    | 4, _ => by decide
    | 5, _ => by decide
    | 6, _ => by decide
    | 7, _ => by decide
    | 8, _ => by decide
    | 9, _ => by decide
    | 10, _ => by decide)) ?_
  match v, hv1 with
  | 1, _ => rw [if_neg (by omega), if_pos (by rfl)]; exact ⟨.str _, H, I, ⟨_, rfl⟩, q⟩
  | 2, _ => rw [if_neg (by omega), if_neg (by rw [hl1]; decide)]; exact ⟨by show 2 ≤ sizeLine; decide, .str _, H, I.tok _, ⟨_, rfl⟩, q⟩
  | 3, _ => rw [if_neg (by omega), if_neg (by rw [hl1]; decide)]; exact ⟨by show 3 ≤ sizeLine; decide, .str _, H, I.tok _, ⟨_, rfl⟩, q⟩
  | 4, _ => rw [if_neg (by omega), if_neg (by rw [hl1]; decide)]; exact ⟨by show 4 ≤ sizeLine; decide, .str _, H, I.tok _, ⟨_, rfl⟩, q⟩
  | 5, _ => rw [if_neg (by omega), if_neg (by rw [hl1]; decide)]; exact ⟨by show 5 ≤ sizeLine; decide, .str _, H, I.tok _, ⟨_, rfl⟩, q⟩
  | 6, _ => rw [if_neg (by omega), if_neg (by rw [hl1]; decide)]; exact ⟨by show 6 ≤ sizeLine; decide, .str _, H, I.tok _, ⟨_, rfl⟩, q⟩
  | 7, _ => rw [if_neg (by omega), if_neg (by rw [hl1]; decide)]; exact ⟨by show 7 ≤ sizeLine; decide, .str _, H, I.tok _, ⟨_, rfl⟩, q⟩
  | 8, _ => rw [if_neg (by omega), if_neg (by rw [hl1]; decide)]; exact ⟨by show 8 ≤ sizeLine; decide, .str _, H, I.tok _, ⟨_, rfl⟩, q⟩
  | 9, _ => rw [if_neg (by omega), if_neg (by rw [hl1]; decide)]; exact ⟨by show 9 ≤ sizeLine; decide, .str _, H, I.tok _, ⟨_, rfl⟩, q⟩
  | 10, _ => rw [if_neg (by omega), if_neg (by rw [hl1]; decide)]; exact ⟨by show 10 ≤ sizeLine; decide, .str _, H, I.tok _, ⟨_, rfl⟩, q⟩
theorem o_mulC10 {X : Cy} {μ : Mu} {Φ : D → Mu → Prop} {c v : Nat} (hv : v ≤ 10) (k : Φ (.str ⟨(List.replicate v c).toArray⟩) μ) : wOp X (binaryOp .Mult) (.str ⟨#[c]⟩) (.int v) μ Φ := wop_of op_mulC10 fun F H x y hs r1 r2 Q kt => by
  cases r1
  cases r2
  exact ⟨c, v, rfl, rfl, hv, kt.now k hs (.str _)⟩
end Oc

/-! Own layer: a lambda without parameters, handed to a def that calls it; tables of code objects. -/
namespace Oc
open PySem PySem.Spec L2
open Evl (Ex)
open LamX (CodeO TabB LamS lamEnv lamCx)
section
variable {X : Cx} {pins : List (Addr × Obj)} {σ : L2.St} {H : Hp} {s : Shared}
/-- the lambda is made: its code object is new, or stands in the table -/
theorem lam_made {c Pt : Addr} {q : Str} {ps : Array Value} {pr : Arguments} {bd : Expr} {sc : Scope} {pos : Pos} {E Q : Value → Shared → Prop} (I : Inv X pins σ H s) (TB : TabB X.base X.mg c Pt) (hcode : X.env.code = .ref c) (hq : X.env.qual ++ "<lambda>" = q)
    (hP : H Pt = some (.tbl ps)) (ht : TriplesOk ps.toList) (ha : ∀ (p : Pos) (u : Value), codeAmong p ps.toList = some u → ∃ c0, u = .ref c0 ∧ H c0 = some (CodeO c0 q)) (hdef : defaultsOf pr X.env = ([], [])) (hfree : ∀ y ∈ sc.names, y.2 = .free → ∃ c0, X.env.cells.lookup y.1 = some c0)
    (k : ∀ (f c' : Addr) (pm ctv : Value) (H1 : Hp) (s' : Shared), Inv X pins σ H1 s' → (H1 = H ∨ (H c' = none ∧ H1 = upd (upd H Pt (.tbl (ps ++ #[rawInt pos.line, rawInt pos.col, .ref c']))) c' (CodeO c' q))) →
      s'.heap.get? f = some (PySem.W.kla_obj "<lambda>" q pr bd sc (cloFrom X.env.cells sc.names []) pm c' ctv) → H1 f = none → f ∉ frs X.stack → H1 c' = some (CodeO c' q) → Q (.ref f) s') : wpAny (model X.prog X.w) X.A (eval (.Lambda pr bd sc pos) X.env) Q E s := by
  subst hq
  refine PySem.W.kla_eval hdef ?_
  have tbS : s.heap.BuiltinsAt X.mg Pt := TB.bm.keeps I.bk
  have oP : s.heap.get? Pt = some { cls := .none, data := .fields ps } := I.hok Pt _ hP
  have off : ∀ b, s.heap.objs.size ≤ b → b ∉ frs X.stack := fun b hb hm => by
    rcases List.mem_cons.mp (I.stkSub _ hm) with z | z
    · have lt := I.lt
      rw [← z] at lt
      exact absurd (Nat.lt_of_lt_of_le lt hb) (Nat.lt_irrefl _)
    · exact I.nofs hb z
  rcases hc : codeAmong pos ps.toList with _ | u
  · refine PySem.W.kla_makeFunction (mg := X.mg) (c := c) (P := Pt) (ps := ps) (closure_ok hfree) I.ok.glob (I.mod.glob.keeps I.bk) hcode (TB.code.keeps I.bk) oP ht hc TB.gP tbS fun c' ctv h1 tk kp ge lt rc wr => ?_
    obtain ⟨c2, oc, vs, t, ec, hoc, hd, hv⟩ := rc
    cases ec
    have big : s.heap.objs.size ≤ h1.objs.size := Nat.le_trans ge (Nat.le_of_lt lt)
    have noC : H c' = none := I.hok.fresh ge
    have J := LamX.inv_table (t' := tk) (more := #[rawInt pos.line, rawInt pos.col, .ref c']) (h' := h1.push (PySem.W.kla_obj "<lambda>" (X.env.qual ++ "<lambda>") pr bd sc (cloFrom X.env.cells sc.names []) ((X.mg "__name__").getD .none) c' ctv)) I hP
      (fun b o hb e => Heap.get?_push_of_some _ (kp b o hb e)) (Heap.get?_push_of_some _ wr) ge ⟨oc, vs, t, Heap.get?_push_of_some _ hoc, hd, hv⟩
    refine k h1.objs.size c' ((X.mg "__name__").getD .none) ctv _ _ J (.inr ⟨noC, rfl⟩) (Heap.get?_push_size _ rfl) ?_ (off _ big) upd_same
    rw [upd_ne (Nat.ne_of_gt lt), upd_ne (Nat.ne_of_gt (Nat.lt_of_lt_of_le (Heap.lt_size oP) big))]
    exact I.hok.fresh big
  · obtain ⟨c', ec, hco⟩ := ha pos u hc
    subst ec
    refine PySem.W.kla_makeFunctionHit (mg := X.mg) (c := c) (P := Pt) (ps := ps) (closure_ok hfree) I.ok.glob (I.mod.glob.keeps I.bk) hcode (TB.code.keeps I.bk) oP ht hc tbS fun ctv h1 tk kp big => ?_
    have J : Inv X pins σ H { s with heap := h1.push (PySem.W.kla_obj "<lambda>" (X.env.qual ++ "<lambda>") pr bd sc (cloFrom X.env.cells sc.names []) ((X.mg "__name__").getD .none) c' ctv), toks := tk } := I.kept fun b o e => Heap.get?_push_of_some _ (kp b o e)
    exact k h1.objs.size c' ((X.mg "__name__").getD .none) ctv H _ J (.inl rfl) (Heap.get?_push_size _ rfl) (I.hok.fresh big) (off _ big) hco
end
/-- the table has grown, the code object stands still from now on -/
theorem Hs.lam {K : KF} {F H : Hp} {μ : Mu} (h : Hs K F μ H) {i : Nat} {Pt c' : Addr} {q : Str} {ps : Array Value} {a b : Nat} (hi : μ[i]? = some (Pt, .tab q)) (hP : H Pt = some (.tbl ps)) (t : TabP F q ps) (hn : H c' = none) :
    Hs K (upd F c' (CodeO c' q)) μ (upd (upd H Pt (.tbl (ps ++ #[rawInt a, rawInt b, .ref c']))) c' (CodeO c' q)) ∧ Ex F (upd F c' (CodeO c' q)) := by
  have nF : F c' = none := Evl.fresh_back h.ex hn
  have nP : F Pt = none := (h.at_ hi).1
  have e : Ex F (upd F c' (CodeO c' q)) := Ex.new nF
  have Pc : Pt ≠ c' := ne_of_none hP hn
  refine ⟨⟨fun b o z => ?_, h.nd, fun x o z => ?_, h.gr.trans e⟩, e⟩
  · by_cases hb : b = c'
    · subst hb
      rw [upd_same] at z ⊢
      exact z
    · rw [upd_ne hb] at z ⊢
      rw [upd_ne (ne_of_none z nP)]
      exact h.ex b o z
  · obtain ⟨h1, u, h2, h3⟩ := h.mu x o z
    have xc : x ≠ c' := ne_of_none h2 hn
    refine ⟨by rw [upd_ne xc]; exact h1, ?_⟩
    by_cases hx : x = Pt
    · subst hx
      obtain ⟨j, hj, ej⟩ := List.mem_iff_getElem.mp z
      have ej' : μ[j]? = some (x, o) := by rw [List.getElem?_eq_getElem hj, ej]
      have ij := nodup_get h.nd hi ej'
      subst ij
      rw [hi] at ej'
      cases ej'
      have eL : (ps ++ #[rawInt a, rawInt b, .ref c']).toList = ps.toList ++ [rawInt a, rawInt b, .ref c'] := by simp
      refine ⟨_, by rw [upd_ne xc, upd_same], .tab ⟨by rw [eL]; exact PySem.TriplesOk_snoc _ _ _ _ t.1, fun p u hu => ?_⟩⟩
      rw [eL] at hu
      rcases LamX.among_app (pos := ⟨a, b, a, b⟩) _ t.1 hu with w | w
      · obtain ⟨c0, e1, e2⟩ := t.2 p u w
        exact ⟨c0, e1, e _ _ e2⟩
      · exact ⟨c', w, upd_same⟩
    · exact ⟨u, by rw [upd_ne xc, upd_ne hx]; exact h2, h3.mono e⟩
/-! ### the lambda called, in the def that got it -/
/-- a call of the thing that stands in the i-th slot -/
theorem act_pe {X : Cx} {pins : List (Addr × Obj)} {σ : L2.St} {H : Hp} {s : Shared} {Ng : List Str} {qg a : Str} {sg sc : Scope} {g f c' : Addr} {cdg pm ctv : Value} {pr : Arguments} {bd : Expr} {k i : Nat} {pn : List (Addr × Obj)} {xe : Value → Shared → Prop} {W : WX} {p1 p2 : Pos}
    (I : Inv X pins σ H s) (L : LamS X.env.scope sc) (hf : s.heap.get? f = some (PySem.W.kla_obj "<lambda>" (X.env.qual ++ "<lambda>") pr bd sc (cloFrom X.env.cells sc.names []) pm c' ctv)) (hfn : H f = none) (hfr : f ∉ frs X.stack)
    (hbind : bindArgs (PySem.W.kla_fn "<lambda>" (X.env.qual ++ "<lambda>") pr bd sc (cloFrom X.env.cells sc.names []) pm (.ref c') ctv) ⟨[], []⟩ = pure []) (tk : Takes ((cxOf CX0 X.prog X.w X.K X.mg X.base Ng qg sg g cdg X.A X.stack s H E0).tr pn xe) W)
    (hr : Rm (k + 1) (X.A.deeper (PyProof.Rows.envOfC qg sg s.heap.objs.size g cdg))) (hN : Ng[i]? = some a) (hv : Vis sg a) (hd : (a == ("__debug__" : Str)) = false) (hcd : (a == ("__classdict__" : Str)) = false) :
    PE ((cxOf CX0 X.prog X.w X.K X.mg X.base Ng qg sg g cdg X.A X.stack s H E0).tr pn xe) (.Call (.Name a p1) [] [] p2) fun σZ HZ Q => σZ[i]? = some (some (.ref f)) ∧ HZ c' = some (CodeO c' (X.env.qual ++ "<lambda>")) ∧
      ∀ (A : Around) (outer : List Env) (t : Shared), Rm k (A.deeper (lamEnv X sc t.heap.objs.size f c')) → ∀ (pins2 : List (Addr × Obj)) (u : Shared), Inv (lamCx X A outer t HZ (fun cls d H' => W cls d σZ H') sc f c') pins2 σ HZ u →
        wpAny (model X.prog X.w) (A.deeper (lamEnv X sc t.heap.objs.size f c')) (eval bd (lamEnv X sc t.heap.objs.size f c')) (EP (lamCx X A outer t HZ (fun cls d H' => W cls d σZ H') sc f c') pins2 σ Q) (lamCx X A outer t HZ (fun cls d H' => W cls d σZ H') sc f c').xe u := by
  refine ⟨fun pz sz σZ HZ Q IZ h => ?_⟩
  obtain ⟨hslot, hco, go⟩ := h
  have nm := (pe_var (pos := p1) (i := i) hN hv hd hcd).run pz sz σZ HZ (fun v H1 => v = .ref f ∧ H1 = HZ) IZ ⟨.ref f, hslot, rfl, rfl⟩
  refine wpAny_Call_Name_kw (thn nm fun u t ⟨v, H1, J, rv, q1⟩ => ?_)
  obtain ⟨ev, eH⟩ := q1
  subst ev
  rw [eH] at J
  obtain rfl : u = Value.ref f := rv
  have of1 : t.heap.get? f = some (PySem.W.kla_obj "<lambda>" (X.env.qual ++ "<lambda>") pr bd sc (cloFrom X.env.cells sc.names []) pm c' ctv) := J.base.keep f _ hf hfn hfr fun z => nomatch (show f ∈ ([] : List Addr) from z)
  refine PySem.W.callWith_F0 ⟨_, _, _, _, of1⟩ ?_
  have un : Un (frs X.stack) [] H HZ s.heap t.heap := J.base
  obtain ⟨⟨oc, ws, tk1, hoc, hdc, hvc⟩, _, _⟩ := J.hok c' _ hco
  have rc : codeAny (model X.prog X.w) (X.A.deeper (PyProof.Rows.envOfC qg sg s.heap.objs.size g cdg)) (.call (.ref f) ⟨[], []⟩) (CR (L2.CX X.prog X.w) (PyProof.Rows.envOfC qg sg s.heap.objs.size g cdg :: X.stack) X.prog X.w HZ t Q fun cls d H' => W cls d σZ H') t := by
    refine PySem.W.kla_callFunE hr.r.depth of1 rfl L.co L.gen rfl ⟨c', oc, ws, tk1, rfl, hoc, hdc, hvc⟩ ?_
    rw [hbind]
    refine wpAny_pure (wpAny_newFunctionEnv (fun y hy => (L.own y hy).2) (fun y hy => absurd hy (by simp)) (fun h1 hns hsb => ⟨J.nolimit.fresh _ hsb, ?_⟩) L.kind)
    show codeAny _ _ (.expr bd (lamEnv X sc t.heap.objs.size f c')) _ _
    have kp : ∀ b o, t.heap.get? b = some o → h1.get? b = some o := fun b o e => hsb.extBut b o (Nat.ne_of_lt (Heap.lt_size e)) (Heap.get?_push_of_some _ e)
    have I2 := LamX.lam_start2 (E := fun cls d H' => W cls d σZ H') (f := f) (c' := c') (tk := t.toks + ([] : List (Str × Value)).length) I L J.env0 hr.r.hd un hns kp
    refine PySem.W.kla_codeExpr (wpAny_mono (go _ _ t (hr.in _) [] _ I2) (fun v s' hq => ?_) fun e s' hq => hq)
    obtain ⟨w', H', J', rv', q⟩ := hq
    exact ⟨w', H', J'.os, J'.bare, J'.base, J'.hok, rv', q⟩
  refine wpAny_call (codeAny_mono rc fun r s' hq => ?_)
  rcases r with e | fl
  · exact tk e s' (XE.of_call J (fun _ _ _ z => z) hq)
  · cases fl with
    | ret u => exact J.after hq
    | next => exact hq.elim
    | brk => exact hq.elim
    | cont => exact hq.elim
/-- what a call of a lambda does: at these cells it ends so, or raises so -/
abbrev LB := Mu → (D → Mu → Prop) → XW → Prop
abbrev LS := LB → Mu → (D → Mu → Prop) → Prop
/-- .. of this lambda, made in X at these slots -/
def LamB (X : Cy) (sc : Scope) (bd : Expr) (ρ : Rho) (k : Nat) : LB := fun μ Φ Ψ => ∀ (A : Around) (outer : List Env) (t : Shared) (H : Hp) (E : XK) (f c' : Addr) (gr : Hp), Rm k (A.deeper (lamEnv X.c sc t.heap.objs.size f c')) →
  Tk ⟨lamCx X.c A outer t H E sc f c', gr⟩ (fun C ks vs _ μ' => Ψ C ks vs μ') → wE ⟨lamCx X.c A outer t H E sc f c', gr⟩ bd ρ μ Φ
/-- the first slot of Z holds a lambda that does B -/
def Acts (Z : Cx) (gr : Hp) (fl : Addr) (a : Str) (B : LB) : Prop := ∀ (pn : List (Addr × Obj)) (xe : Value → Shared → Prop) (g2 : Hp) (Ψ : Addr → List Str → List D → Rho → Mu → Prop) (ρZ : Rho) (μZ : Mu) (Φ : D → Mu → Prop) (p1 p2 : Pos), Ex gr g2 → ρZ[0]? = some (some (.ptr fl)) → Tk ⟨Z.tr pn xe, g2⟩ Ψ →
  B μZ Φ (fun C ks vs μ2 => Ψ C ks vs ρZ μ2) → wE ⟨Z.tr pn xe, g2⟩ (.Call (.Name a p1) [] [] p2) ρZ μZ Φ
/-- the promise of a def with one parameter, a lambda -/
structure KnL (P : Program) (w : World) (K : PySem.W.Frag) (mg : Str → Option Value) (base : Heap) (k : Nat) (x a : Str) (st : Stmt) (N : List Str) (S : LS) : Prop where
  src : Src K mg x st [a]
  sc : FnScope N [a] (defScope st)
  run : ∀ (g : Addr) (cdv : Value) (A : Around) (outer : List Env) (s : Shared) (H : Hp) (fl : Addr) (B : LB) (μ : Mu) (Φ : D → Mu → Prop) (gr : Hp), Rm k (A.deeper (PyProof.Rows.envOfC x (defScope st) s.heap.objs.size g cdv)) → S B μ Φ →
    Acts (cxOf CX0 P w K mg base N x (defScope st) g cdv A outer s H E0).nox gr fl a B →
    wSs ⟨(cxOf CX0 P w K mg base N x (defScope st) g cdv A outer s H E0).nox, gr⟩ (defBody st) (rho N [.ptr fl]) μ { nx := fun _ μ' => Φ .non μ', rt := Φ }
section
variable {X : Cy}
/-- x(lambda: bd) -/
theorem w_lam {x a : Str} {st : Stmt} {N : List Str} {S : LS} {kg kb k0 : Nat} {c Pt : Addr} {q : Str} {pr : Arguments} {bd : Expr} {sc : Scope} {ρ : Rho} {μ : Mu} {Φ : D → Mu → Prop} {p lpos pos : Pos} (G : KnL X.prog X.w X.K X.mg X.base kg x a st N S) (hr : Rm k0 X.A) (i : Nat) (hi : μ[i]? = some (Pt, .tab q)) (TB : TabB X.base X.mg c Pt)
    (h : S (LamB X sc bd ρ kb) μ Φ) (h1 : kg + 1 ≤ k0 := by decide) (h2 : kb + 2 ≤ k0 := by decide) (hcode : X.env.code = .ref c := by rfl) (hq : X.env.qual ++ "<lambda>" = q := by rfl) (L : LamS X.env.scope sc := by exact LamX.lamS_by (by decide +kernel)) (hdef : defaultsOf pr X.env = ([], []) := by rfl)
    (hbind : ∀ (y : Str) (cl : List (Str × Addr)) (pm cv ctv : Value), bindArgs (PySem.W.kla_fn "<lambda>" y pr bd sc cl pm cv ctv) ⟨[], []⟩ = pure [] := by intros; rfl) (hN : N[0]? = some a := by rfl) (hva : Vis (defScope st) a := by exact .inl rfl) (hg : Gl X x := by rfl)
    (hdb : (x == ("__debug__" : Str)) = false := by decide) (hd : (a == ("__debug__" : Str)) = false := by decide) (hcd : (a == ("__classdict__" : Str)) = false := by decide) : wE X (.Call (.Name x p) [.Lambda pr bd sc lpos] [] pos) ρ μ Φ := by
  intro F σ H hs sl Q kt pins s I
  obtain ⟨g, fd, Fn, hm, hb⟩ := G.src.ex
  have kpG := Fn.kp
  obtain ⟨oc, od, kV, doc, pm0, an, cdv, ct, osl, rfl, lk, hcg⟩ := Fn.ex
  obtain ⟨nP, u0, hP, ro⟩ := hs.at_ hi
  cases ro with
  | tab tb =>
  rename_i ps
  refine wpAny_Call_Name_kw (ld_glob I hg hm ?_ hdb)
  refine PySem.W.callWith_K (h₀ := X.base) I.ok.mod.kin kpG ?_ (by rfl) (by rfl)
  show wpAny _ _ (spliced ((false, eval (.Lambda pr bd sc lpos) X.env) :: backTo pos (starEach [] X.env))) _ _ s
  refine Calls.spliced_cons (lam_made I TB hcode hq hP tb.1 (fun p u hu => by obtain ⟨c0, e1, e2⟩ := tb.2 p u hu; exact ⟨c0, e1, hs.ex _ _ e2⟩) hdef (L.has I.ok) fun f c' pm' ctv H1 s' I1 hH hf hfn hfr hco => ?_)
  refine Calls.spliced_nil ⟨I1.kIn, ?_⟩
  have stp : ∃ F1, Ex F F1 ∧ Hs X.K F1 μ H1 ∧ F1 c' = some (CodeO c' q) := by
    rcases hH with e | ⟨e1, e2⟩
    · subst e
      have nc : F c' = some (CodeO c' q) ∨ F c' = none := by
        rcases e : F c' with _ | o
        · exact .inr rfl
        · rw [hs.ex _ _ e] at hco
          exact .inl hco
      rcases nc with nc | nc
      · exact ⟨F, Ex.refl F, hs, nc⟩
      · have hno : ∀ o, (c', o) ∉ μ := fun o hm => by
          obtain ⟨_, u, hu, ru⟩ := hs.mu c' o hm
          rw [hco] at hu
          cases hu
          unfold CodeO at ru
          cases ru
        obtain ⟨g1, g2⟩ := hs.still nc hco hno
        exact ⟨_, g2, g1, upd_same⟩
    · subst e2
      obtain ⟨g1, g2⟩ := hs.lam (a := lpos.line) (b := lpos.col) hi hP tb e1
      exact ⟨_, g2, g1, upd_same⟩
  obtain ⟨F1, e1, hs1, hc1⟩ := stp
  subst hq
  have act : Acts (cxOf CX0 X.prog X.w X.c.K X.mg X.base N x (defScope st) g cdv X.A X.stack s' H1 E0).nox F1 f a (LamB X sc bd ρ kb) := by
    intro pn xe g2 Ψ ρZ μZ ΦZ p1 p2 eg hslot tk hB
    obtain ⟨W, tW, hW⟩ := tk
    intro F2 σZ HZ hsZ slZ QZ ktZ
    refine se_of (act_pe (k := kb) (i := 0) I1 L hf hfn hfr (hbind _ _ _ _ _) tW ((hr.le (show kb + 1 + 1 ≤ k0 by omega)).in _) hN hva hd hcd) ⟨?_, hsZ.ex _ _ (hsZ.gr _ _ (eg _ _ hc1)), fun A outer t hrm pins2 u I2 => ?_⟩
    · obtain ⟨v, g1, g2⟩ := slZ.at_ 0 _ hslot
      cases g2
      exact g1
    · have tkl : Tk ⟨lamCx X.c A outer t HZ (fun cls d H' => W cls d σZ H') sc f c', F2⟩ (fun C ks vs _ μ' => Ψ C ks vs ρZ μ') := by
        refine ⟨fun cls d _ H' => W cls d σZ H', takes_of (X := lamCx X.c A outer t HZ (fun cls d H' => W cls d σZ H') sc f c') (E := fun cls d H' => W cls d σZ H') rfl rfl rfl rfl, fun C d ks vs F3 σ3 H3 ρ3 μ3 z xr hs3 sl3 => ?_⟩
        exact hW C d ks vs F3 σZ H3 ρZ μ3 z xr (hs3.regr (hsZ.gr.trans hs3.gr)) (slZ.mono hs3.gr)
      exact hB A outer t HZ _ f c' F2 hrm tkl F2 σ HZ (hsZ.regr (Ex.refl F2)) (sl.mono (e1.trans (eg.trans hsZ.gr))) QZ (fun v F3 H3 d μ3 z x3 hs3 r3 => ktZ v F3 H3 d μ3 z x3 (hs3.regr (hsZ.gr.trans x3)) r3) pins2 u I2
  have rc : codeAny (model X.prog X.w) X.A (.call (.ref g) ⟨[.ref f], []⟩) (CR CX0 X.stack X.prog X.w H1 s' Q E0) s' := by
    have hrg : Rm (kg + 1) X.A := hr.le h1
    refine LamX.run_ofS (k := kg) (N := N) (ps := [a]) (us := [.ref f]) (vs := [.ref f]) lk hcg G.sc hrg.r I1.env0 (hb s' [.ref f] I1.kIn rfl) (.cons rfl .nil) rfl fun _ => ?_
    refine ⟨_, PSs.nox (pss_s (X := ⟨(cxOf CX0 X.prog X.w X.c.K X.mg X.base N x (defScope st) g cdv X.A X.stack s' H1 E0).nox, F1⟩)), ?_⟩
    exact G.run g cdv X.A X.stack s' H1 f (LamB X sc bd ρ kb) μ Φ F1 (hrg.in _) h act F1 (L2.start N [.ref f]) H1 (hs1.regr (Ex.refl F1)) (sl_start (.cons (.ptr f) .nil)) { nx := fun _ H' => Q .non H', rt := Q, bk := fun _ _ => False, ct := fun _ _ => False }
      ⟨fun F2 H2 σ2 ρ2 μ2 z x2 hs2 sl2 => kt .non F2 H2 .non μ2 z (e1.trans x2) (hs2.regr (hs1.gr.trans x2)) .non, fun v F2 H2 d μ2 z x2 hs2 r2 => kt v F2 H2 d μ2 z (e1.trans x2) (hs2.regr (hs1.gr.trans x2)) r2, fun F2 H2 σ2 ρ2 μ2 z => False.elim z, fun F2 H2 σ2 ρ2 μ2 z => False.elim z⟩
  refine wpAny_call (codeAny_mono rc fun r s2 hz => ?_)
  rcases r with e | fl
  · exact (show False from hz).elim
  · cases fl with
    | ret u => exact I1.after hz
    | next => exact hz.elim
    | brk => exact hz.elim
    | cont => exact hz.elim
end
/-! ### defs that make lambdas, the law's end with their tables -/
section
variable {P : Program} {w : World} {K : PySem.W.Frag} {mg : Str → Option Value} {base : Heap}
/-- the code object of the def x and its table -/
structure TabC (K : PySem.W.Frag) (mg : Str → Option Value) (base : Heap) (x : Str) (c Pt : Addr) : Prop where
  kin : K.In base
  ns : base.Ns mainGlobals mg
  tb : TabB base mg c Pt
  ti : PySem.W.tabIn K x = some (c, Pt)
theorem TabC.code {x : Str} {st : Stmt} {c Pt f : Addr} {fd : FuncData} (T : TabC K mg base x c Pt) (hm : mg x = some (.ref f)) (F : Fun K x x st f fd) : fd.code = .ref c := by
  obtain ⟨oc, od, kV, doc, pm, an, cdv, ct, osl, rfl, lk, hcd⟩ := F.ex
  exact PySem.W.law_code T.kin T.ns T.ti hm (T.kin _ _ lk) rfl
theorem fnG_ofT {x : Str} {st : Stmt} {f c Pt : Addr} {fd : FuncData} {N ps : List Str} {k : Nat} {S : FS} (T : TabC K mg base x c Pt) (hm : mg x = some (.ref f)) (F : Fun K x x st f fd) (Sc : FnScope N ps (defScope st)) (len : ∀ ds μ Φ, S ds μ Φ → ds.length = ps.length)
    (body : ∀ (A : Around) (outer : List Env) (s : Shared) (H : Hp) (E : XK) (g : Hp), Rm k (A.deeper (PyProof.Rows.envOfC x (defScope st) s.heap.objs.size f (.ref c))) → ∀ ds μ Φ, S ds μ Φ →
      wSs ⟨(cxOf CX0 P w K mg base N x (defScope st) f (.ref c) A outer s H E).nox, g⟩ (defBody st) (rho N ds) μ { nx := fun _ μ' => Φ .non μ', rt := Φ }) : FnG P w K mg base (k + 1) f fd ps S :=
  fnG_ofC F Sc len fun cdv hc => by
    have e : cdv = .ref c := hc.symm.trans (T.code hm F)
    subst e
    exact body
theorem kn_ofT {x : Str} {st : Stmt} {N ps : List Str} {k : Nat} {c Pt : Addr} {S : FS} (T : TabC K mg base x c Pt) (B : Src K mg x st ps) (Sc : FnScope N ps (defScope st)) (len : ∀ ds μ Φ, S ds μ Φ → ds.length = ps.length)
    (body : ∀ (f : Addr) (A : Around) (outer : List Env) (s : Shared) (H : Hp) (E : XK) (g : Hp), Rm k (A.deeper (PyProof.Rows.envOfC x (defScope st) s.heap.objs.size f (.ref c))) → ∀ ds μ Φ, S ds μ Φ →
      wSs ⟨(cxOf CX0 P w K mg base N x (defScope st) f (.ref c) A outer s H E).nox, g⟩ (defBody st) (rho N ds) μ { nx := fun _ μ' => Φ .non μ', rt := Φ }) : KnG P w K mg base (k + 1) x ps S := by
  obtain ⟨f, fd, F, hm, hb⟩ := B.ex
  exact ⟨f, fd, hm, F.kp, hb, fnG_ofT T hm F Sc len (body f)⟩
def S_lawT (ts : List (Addr × Str)) : FS := fun ds μ Φ => ∃ ns : List Int, ds = [.scr (ns.map D.int)] ∧ ns.length ≤ 63 ∧ μ = ts.map (fun p => (p.1, MO.tab p.2)) ∧ ∀ μ', Φ (.bl true) μ'
end
open PyProof.Rows in
theorem law_callT {P : Program} {w : World} {K : PySem.W.Frag} {mg mb : Str → Option Value} {k : Nat} {fa a : Addr} {fd : FuncData} {x : Str} {t : Shared} {vs : List Value} {ns : List Int} {cs : List (Addr × Addr)} {ts : List (Addr × Str)} (hts : ts.map (·.1) = cs.map (·.2)) (nd : (ts.map (·.1)).Nodup)
    (kT : K.In t.heap) (hns : t.heap.Ns mainGlobals mg) (hb : t.heap.Ns builtinsNs mb) (hbb : ∀ y : Str, y ≠ "__name__" → mb y = bootBuiltins y) (nl : t.heap.NoLimit) (hg : t.gens = #[]) (hP : ∀ p ∈ cs, t.heap.get? p.2 = some { cls := .none, data := .fields #[] }) (nP : ∀ p ∈ cs, K.lookup p.2 = none) (hC : ∀ p ∈ cs, PySem.W.CodeHd t.heap p.1 p.2)
    (hbm : ∃ (bm : Addr) (ob : Obj), mg "__builtins__" = some (.ref bm) ∧ bm ≠ builtinsNs ∧ t.heap.get? bm = some ob ∧ ob.cls = .type "module" ∧ ob.dict = some builtinsNs ∧ ob.data = .plain) (ha : t.heap.get? a = some { cls := .type "list", data := .seq vs.toArray }) (hi : PyProof.Rows.IntsAre vs ns)
    (hl : ns.length ≤ 63) (hr : Rm k callerA) (F : ∀ base : Heap, K.In base → base.Ns mainGlobals mg → (∀ p ∈ cs, TabB base mg p.1 p.2) → FnG P w K mg base k fa fd [x] (S_lawT ts)) (bind : ∀ (s : Shared) (u : Value), BindsTo s fd ⟨[u], []⟩ [(x, u)]) :
    codeAny (model P w) callerA (.call (.ref fa) ⟨[.ref a], []⟩) (fun r s' => r = .ok (.ret (.bool true)) ∧ OldK t.heap s'.heap ∧ s'.os = t.os ∧ AllBare s'.gens) t := by
  have vals := vals_ints hi
  have lenV := hi.length
  have hz : ns.length ≤ sizeLine := Nat.le_trans hl (by decide)
  obtain ⟨T, hT⟩ : ∃ T, T = cs.map (·.2) := ⟨_, rfl⟩
  have tabO : ∀ b, b ∈ T → t.heap.get? b = some { cls := .none, data := .fields #[] } := fun b hm => by
    rw [hT] at hm
    obtain ⟨p, hp, rfl⟩ := List.mem_map.mp hm
    exact hP p hp
  have tabK : ∀ b, b ∈ T → K.lookup b = none := fun b hm => by
    rw [hT] at hm
    obtain ⟨p, hp, rfl⟩ := List.mem_map.mp hm
    exact nP p hp
  have aT : a ∉ T := fun hm => by
    have e := tabO a hm
    rw [ha] at e
    cases e
  suffices goal : ∀ F0 : Hp, (∀ b, F0 b = none ∨ ∃ o xs, F0 b = some (.frz o (.lst xs))) → SqL K F0 a (ns.map V.int) → HOk P w F0 t.heap → (∀ b, F0 b ≠ none → b = a) → (F0 a ≠ none → K.lookup a = none) →
      codeAny (model P w) callerA (.call (.ref fa) ⟨[.ref a], []⟩) (fun r s' => r = .ok (.ret (.bool true)) ∧ OldK t.heap s'.heap ∧ s'.os = t.os ∧ AllBare s'.gens) t by
    rcases hk : K.lookup a with _ | ob
    · let H1 : Hp := fun b => if b = a then some (.frz { cls := .type "list", data := .seq vs.toArray } (.lst (ns.map V.int))) else none
      have at1 : H1 a = some (.frz { cls := .type "list", data := .seq vs.toArray } (.lst (ns.map V.int))) := if_pos rfl
      have off : ∀ b, b ≠ a → H1 b = none := fun b z => if_neg z
      refine goal H1 (fun b => ?_) (.inl (.inr ⟨_, at1⟩)) (fun b u z => ?_) (fun b z => Classical.byContradiction fun hb => z (off b hb)) fun _ => hk
      · rcases Classical.em (b = a) with rfl | hb
        · exact .inr ⟨_, _, at1⟩
        · exact .inl (off b hb)
      · rcases Classical.em (b = a) with rfl | hb
        · rw [at1] at z
          cases z
          exact ⟨ha, by rw [List.length_map]; exact hz, vs, _, vals, ha⟩
        · rw [off b hb] at z
          cases z
    · have e := kT a ob hk
      rw [ha] at e
      cases e
      exact goal (fun _ => none) (fun _ => .inl rfl) (.inr ⟨_, vs.toArray, _, hk, rfl, rfl, rfl, by rw [List.size_toArray, lenV]; exact hz, by simpa using vals⟩) (fun b u z => nomatch z) (fun b z => absurd rfl z) fun z => absurd rfl z
  intro F0 onl sq hok0 one apart
  let H : Hp := fun b => if b ∈ T then some (.tbl #[]) else F0 b
  have Hin : ∀ b, b ∈ T → H b = some (.tbl #[]) := fun b z => if_pos z
  have Hout : ∀ b, b ∉ T → H b = F0 b := fun b z => if_neg z
  have FT : ∀ b, b ∈ T → F0 b = none := fun b z => Classical.byContradiction fun q => aT (by rw [← one b q]; exact z)
  have ex : Ex F0 H := fun b o e => by
    rw [Hout b fun z => by rw [FT b z] at e; cases e]
    exact e
  have hok : HOk P w H t.heap := fun b u e => by
    by_cases hb : b ∈ T
    · rw [Hin b hb] at e
      cases e
      exact tabO b hb
    · rw [Hout b hb] at e
      exact (hok0 b u e).stay (fun _ _ _ q => q) (fun c q => ex _ _ q) fun c xs q => ex _ _ q
  have isA : ∀ {b : Addr}, ¬ H b = none → b = a ∨ b ∈ T := fun {b} z => by
    by_cases hb : b ∈ T
    · exact .inr hb
    · rw [Hout b hb] at z
      exact .inl (one b z)
  have out : ∀ {b : Addr} {o : Obj}, t.heap.get? b = some o → H b = none → (hidT t.heap H).get? b = some o := fun e n => hidT_get e n
  have plain : ∀ {b : Addr} {o : Obj}, t.heap.get? b = some o → (∀ vs n, o.data ≠ .seq vs n) → o.data ≠ .fields #[] → H b = none := fun {b o} e n1 n2 => Classical.byContradiction fun z => by
    rcases isA z with rfl | hb
    · rw [ha] at e
      cases e
      exact n1 _ _ rfl
    · rw [tabO b hb] at e
      cases e
      exact n2 rfl
  have dicts : ∀ {b : Addr} {o : Obj} {es : Array DictEntry} {ep : Nat}, t.heap.get? b = some o → o.data = .dict es ep → H b = none := fun {b o es ep} e d => plain e (fun vs n z => by rw [d] at z; cases z) fun z => by rw [d] at z; cases z
  have nsH : ∀ {b : Addr} {m : Str → Option Value}, t.heap.Ns b m → (hidT t.heap H).Ns b m := fun {b m} ⟨o, es, ep, e, d, r⟩ => ⟨o, es, ep, out e (dicts e d), d, r⟩
  have kH : K.In (hidT t.heap H) := fun b o e => out (kT b o e) (Classical.byContradiction fun z => by
    rcases isA z with eb | hb
    · subst eb
      have z' : F0 b ≠ none := by rw [← Hout b aT]; exact z
      rw [apart z'] at e
      cases e
    · rw [tabK b hb] at e
      cases e)
  have md : L2.Mod K mg (hidT t.heap H) := ⟨kH, nsH hns, ⟨mb, nsH hb, hbb⟩, let ⟨mc, h1, h2⟩ := nl; ⟨mc, nsH h1, h2⟩⟩
  have TB : ∀ p ∈ cs, TabB (hidT t.heap H) mg p.1 p.2 := fun p hp => by
    have oP := hP p hp
    refine ⟨?_, ?_, fun z => ?_⟩
    · obtain ⟨o, us, file, tf, flags, tg, inF, text, tt, e1, r1, r2, r3, rs⟩ := hC p hp
      refine ⟨o, us, file, tf, flags, tg, inF, text, tt, out e1 (plain e1 (fun vs n z => ?_) fun z => ?_), r1, r2, r3, rs⟩
      · rw [r2] at z
        cases z
      · rw [r2] at z
        cases z
        simp at r3
    · obtain ⟨bm, ob, b1, b2, b3, b4, b5, b6⟩ := hbm
      refine ⟨bm, ob, b1, b2, fun q => ?_, fun q => ?_, out b3 (plain b3 (fun vs n z => by rw [b6] at z; cases z) fun z => by rw [b6] at z; cases z), b4, b5, b6⟩
      · obtain ⟨o, es, ep, e, hd, _⟩ := hns
        rw [q, e] at b3
        cases b3
        rw [hd] at b6
        cases b6
      · rw [q, oP] at b3
        cases b3
        cases b6
    · obtain ⟨o, es, ep, e, hd, _⟩ := hns
      rw [z, oP] at e
      cases e
      cases hd
  have e0 : Env0 P w K mg (hidT t.heap H) callerA [] t H := ⟨rfl, md, fun b o e => of_hidT e, Nat.le_of_eq (hidT_size _ _), trivial, fun b hb => (nomatch hb), hok, AllBare.of_eq hg⟩
  have start : spD K (S_lawT ts) [.ref a] H (fun v _ => v = .bl true) E0 := by
    refine ⟨F0, F0, [.scr (ns.map D.int)], ts.map fun p => (p.1, MO.tab p.2), fun d _ => d = .bl true, ⟨ex, ?_, fun b o hm => ?_, Ex.refl F0⟩, .cons (.scr sq (reps_map (fun i => .int i) ns)) .nil, ⟨ns, rfl, hl, rfl, fun _ => rfl⟩, fun v F1 H1 d μ1 q _ _ r => ?_⟩
    · rw [List.map_map]
      exact nd
    · obtain ⟨p, hp, e⟩ := List.mem_map.mp hm
      cases e
      have hb : p.1 ∈ T := by
        rw [hT, ← hts]
        exact List.mem_map.mpr ⟨p, hp, rfl⟩
      refine ⟨FT _ hb, _, Hin _ hb, .tab ⟨trivial, fun ps u hu => ?_⟩⟩
      have z : codeAmong ps [] = some u := hu
      simp [codeAmong] at z
    · subst q
      cases r
      rfl
  refine codeAny_mono ((F _ kH (nsH hns) TB).run callerA [] t H ⟨[.ref a], []⟩ [.ref a] [.ref a] (fun v _ => v = .bl true) hr e0 (bind t (.ref a)) (.cons rfl .nil) start) fun r s' h => ?_
  rcases r with e | fl
  · exact h.elim
  · cases fl with
    | ret u =>
      obtain ⟨v, H', os, bare, un, hok', r', q⟩ := h
      obtain rfl : v = .bl true := q
      obtain rfl : u = Value.bool true := r'
      have grown : ∀ b, b ∈ T → ∃ more : Array Value, s'.heap.get? b = some { cls := .none, data := .fields more } := fun b hb => by
        obtain ⟨more, z⟩ := un.tbls b #[] (Hin b hb)
        exact ⟨_, hok' b _ z⟩
      have same : ∀ b o, b ∉ T → t.heap.get? b = some o → s'.heap.get? b = some o := fun b o hb e => by
        rcases onl b with z | ⟨ob, xs, z⟩
        · exact un.keep b o e ((Hout b hb).trans z) (fun z => nomatch z) (fun z => nomatch z)
        · have g1 := (hok b _ (ex _ _ z)).1
          rw [e] at g1
          cases g1
          exact (hok' b _ (un.frzs b _ _ (ex _ _ z))).1
      refine ⟨rfl, ⟨fun b o e => ?_, fun b o e => ?_⟩, os, bare⟩
      · by_cases hb : b ∈ T
        · obtain ⟨more, hm⟩ := grown b hb
          rw [hT] at hb
          obtain ⟨p, hp, rfl⟩ := List.mem_map.mp hb
          rw [hP p hp] at e
          cases e
          exact .inr (.inl ⟨((hC p hp).tab (hP p hp)).isCodeTable, rfl, #[], more, rfl, by rw [Array.empty_append]; exact hm⟩)
        · exact .inl (same b o hb e)
      · by_cases hb : b ∈ T
        · obtain ⟨more, hm⟩ := grown b hb
          exact ⟨_, hm⟩
        · exact ⟨o, same b o hb e⟩
    | next => exact h.elim
    | brk => exact h.elim
    | cont => exact h.elim
theorem walk_ofT {l : PySem.W.OpenLaw} {k : Nat} {q : Program} {loose : List Str} {XP : (Str → Option Value) → Heap → Prop} {YP : World → Heap → Prop} {d : DefRec} {K : Params → PySem.W.Frag} {x : Str} (hn : l.most = some 63) (hdf : d.params.defaults = []) (hr : Room k callerA)
    (hY : ∀ (w : World) (h : Heap), YP w h → (K w.params).In h)
    (F : ∀ (w : World) (mg : Str → Option Value) (fa : Addr) (h : Heap), (K w.params).In h → h.Ns mainGlobals mg → mg d.name = some (.ref fa) → (∀ (y : Str) (c Pt : Addr), ((PyProof.Rows.recsOf q).find? fun e => e.name == y).isSome = true → PySem.W.tabIn (K w.params) y = some (c, Pt) → PySem.W.CodeHd h c Pt ∧ h.get? Pt = some { cls := .none, data := .fields #[] }) →
      ∃ (fd : FuncData) (cs : List (Addr × Addr)) (ts : List (Addr × Str)), ts.map (·.1) = cs.map (·.2) ∧ (ts.map (·.1)).Nodup ∧ (∀ p ∈ cs, h.get? p.2 = some { cls := .none, data := .fields #[] }) ∧ (∀ p ∈ cs, (K w.params).lookup p.2 = none) ∧ (∀ p ∈ cs, PySem.W.CodeHd h p.1 p.2) ∧
        (∀ (s : Shared) (u : Value), BindsTo s fd ⟨[u], []⟩ [(x, u)]) ∧ ∀ base : Heap, (K w.params).In base → base.Ns mainGlobals mg → (∀ p ∈ cs, TabB base mg p.1 p.2) → FnG l.prog w (K w.params) mg base k fa fd [x] (S_lawT ts)) :
    PySem.W.WalkO q loose XP YP l.row.toRowW d [] (fun f vs => PySem.call f vs) := by
  refine Att.attach_call hn hdf fun w s₀ t mg mb fa o pm cd doc a vs ns G Y ho hd hcd hmg hobj hints hlen hg => ?_
  have KX := hY w _ Y
  obtain ⟨fd, cs, ts, h1, h2, h3, h4, h5, hb, hF⟩ := F w mg fa _ KX G.T.g hmg fun y c Pt hrec hti => by
    obtain ⟨d', hd'⟩ := Option.isSome_iff_exists.mp hrec
    exact PySem.W.tab_of G.T KX hd' hti
  exact law_callT h1 h2 KX G.T.g G.T.b G.T.builtins G.T.nolimit hg h3 h4 h5 G.T.bmain hobj hints hlen ⟨hr, rfl⟩ hF hb
end Oc

/-! Own layer: refusals with an own __init__ that keeps fields; the fields of a refusal that was caught. -/
namespace Oc
open PySem PySem.Spec L2
open Evl (Ex)
/-- a class's attribute that is a builtin, seen from an own class over ValueError -/
structure VeC (K : PySem.W.Frag) (B : Addr) : Prop where
  sB : PySem.W.specialIn K (.ref B) "__getattribute__" = some (some (.builtin "type.__getattribute__"))
  tB : PySem.W.typeIn K (.ref B) = some (.type "type")
  rB : PySem.W.readsIn K B (.type "type") = true
  vB : PySem.W.findCls K (.ref B) (.type "type") "__init__" = some (.val (.builtin "ValueError.__init__"))
section
variable {X : Cx} {e : Expr} {es : List Expr} {ta : TA} {bn : Str} {B : Addr} {p1 p2 pos : Pos}
/-- B.__init__(self, ..), B an own class over ValueError that has none of its own -/
theorem pe_veinitC {pl : Sem Bool} (V : VeC X.K B) (hg : Gl X bn) (hm : X.mg bn = some (.ref B)) (hdb : (bn == ("__debug__" : Str)) = false) (ha : PA X (e :: es) ta)
    (hc : eval (.Call (.Attribute (.Name bn p1) "__init__" p2) (e :: es) [] pos) X.env = (do
      let ov ← eval (.Name bn p1) X.env
      standAt p2.atName
      let (f, first) ← holding [ov] (getMethod ov "__init__" pl)
      callWith pos f first (backTo pos (starEach (e :: es) X.env)) (backToKw pos (keywordEach [] X.env))) := by rfl)
    (he : starEach (e :: es) X.env = (false, eval e X.env) :: starEach es X.env := by rfl) (hpl : (backTo pos (starEach es X.env)).any (·.1) = false := by rfl) :
    PE X (.Call (.Attribute (.Name bn p1) "__init__" p2) (e :: es) [] pos) (tVeI X.K ta) := by
  constructor
  intro pz sz σz Hz Qz J hz
  apply PySem.W.methodCall_KW (h := ?_) hc
  apply ld_glob J hg hm (h := ?_) hdb
  apply PySem.W.method_cls J.kIn V.sB
  obtain ⟨mz, frz⟩ := J.fr
  apply PySem.W.cls_val frz J.ok.mod.kin V.tB V.rB V.vB (by decide +kernel)
  show wpAny _ _ (callWith pos (Value.builtin "ValueError.__init__") [] (backTo pos (starEach (e :: es) X.env)) []) _ _ _
  apply PyProof.Rows.callWith_method1 (h := ?_) he hpl
  apply thn (ha.run pos pz _ σz Hz _ (J.tok _) hz)
  rintro us s1 ⟨vs, H1, J1, r1, a, C, ws, rfl, hl, T, ea, q⟩
  cases r1 with
  | @cons _ u0 _ ur ra rr =>
    have e0 : u0 = Value.ref a := ra
    subst e0
    apply oinit_ok T J1 ea (hl := by have := Paired.length rr; rw [sizeLine_eq]; omega)
    exact fun s' J2 => ⟨.non, H1, J2, rfl, q⟩
end
/-- an own class over ValueError whose __init__ keeps fields -/
structure InitO (P : Program) (w : World) (K : PySem.W.Frag) (mg : Str → Option Value) (base : Heap) (C : Addr) (k : Nat) (ks : List Str) : Prop where
  ne : ks ≠ []
  ex : ∃ (fI : Addr) (fd : FuncData) (sp : Sp) (ps : List Str), OexC K C ∧ PySem.W.findIn K (.ref C) "__init__" = some (some (.ref fI)) ∧ PySem.W.typeIn K (.ref fI) = some (.type "function") ∧ FnOk P w K mg base CX0 k fI fd ps sp ∧ Binds K fd ps [] ∧
    ∀ (vs : List V) (H : Hp) (a : Addr) (Q : VK) (E : XK), vs.length = ks.length → H a = some (exo a C none) → (∀ (d : Addr) (H2 : Hp), H d = none → d ≠ a → H2 a = some (exo a C (some d)) → H2 d = some (exd d (ks.zip vs).reverse) → (∀ b, b ≠ a → b ≠ d → H2 b = H b) → Q .non H2) → sp (.ref a :: vs) H Q E
section
variable {X : Cy} {e : Expr} {es : List Expr} {ρ : Rho} {μ : Mu} {E : En} {p pos pos2 : Pos} {Ψ : Addr → List Str → List D → Rho → Mu → Prop}
theorem zip_keys {ks : List Str} {vs : List V} (h : vs.length = ks.length) : (ks.zip vs).reverse.map (·.1) = ks.reverse := by
  rw [List.map_reverse]
  congr 1
  induction ks generalizing vs with
  | nil => rfl
  | cons k ks ih =>
    cases vs with
    | nil => cases h
    | cons v vs => rw [List.zip_cons_cons, List.map_cons, ih (by simpa using h)]
theorem zip_vals {ks : List Str} {vs : List V} (h : vs.length = ks.length) : (ks.zip vs).reverse.map (·.2) = vs.reverse := by
  rw [List.map_reverse]
  congr 1
  induction ks generalizing vs with
  | nil =>
    cases vs with
    | nil => rfl
    | cons v vs => cases h
  | cons k ks ih =>
    cases vs with
    | nil => cases h
    | cons v vs => rw [List.zip_cons_cons, List.map_cons, ih (by simpa using h)]
/-- raise C(e, ..), C's own __init__ keeping its arguments -/
theorem w_raiseI {C : Addr} {x : Str} {k k0 : Nat} {ks : List Str} (G : InitO X.prog X.w X.K X.mg X.base C k ks) (tk : Tk X Ψ) (hr : Rm k0 X.A) (gC : X.mg x = some (.ref C)) (h : wA X (e :: es) ρ μ fun ds μ1 => ds.length = ks.length ∧ Ψ C ks.reverse ds.reverse ρ μ1) (hkk : ks.length ≤ 1000 := by decide) (hk : k + 1 ≤ k0 := by decide) (hc : X.calm = true := by rfl) (hg : Gl X x := by rfl)
    (hdb : (x == ("__debug__" : Str)) = false := by decide) (he : starEach (e :: es) X.env = (false, eval e X.env) :: starEach es X.env := by rfl) (hpl : (backTo pos (starEach es X.env)).any (·.1) = false := by rfl) :
    wS X (.Raise (some (.Call (.Name x p) (e :: es) [] pos)) none pos2) ρ μ E := fun F0 σ H hs sl D kt => by
  obtain ⟨W, tW, hW⟩ := tk
  obtain ⟨fI, fd, sp, ps, T, iC, tI, F1, hb, hsp⟩ := G.ex
  refine ss_of (ps_raise hc tW (pmk_oex T iC tI F1 (hr.le hk).r hb .nil (fun _ _ _ _ _ _ _ z => z.elim) hg gC pa_s hdb he hpl)) (h F0 σ H hs sl _ fun vs F1 H1 ds μ1 ⟨hl, q⟩ e1 hs1 r1 => ?_)
  have hvl : vs.length = ks.length := by rw [r1.length]; exact hl
  refine ⟨by omega, fun a ha => ?_⟩
  rw [List.append_nil]
  refine hsp vs _ a _ _ hvl upd_same fun d H2 hd hda e2 e3 hbk => ?_
  rw [upd_ne hda] at hd
  refine ⟨rfl, d, _, e2, e3, hd, ?_⟩
  have eH : upd (del H2 a) d (.xd (ks.zip vs).reverse) = upd H1 d (.xd (ks.zip vs).reverse) := by
    funext b
    by_cases h1 : b = d
    · rw [h1, upd_same, upd_same]
    · rw [upd_ne h1, upd_ne h1]
      by_cases h2 : b = a
      · rw [h2, del_same, ha]
      · rw [del_ne h2, hbk b h2 h1, upd_ne h2]
  rw [eH]
  obtain ⟨g1, g2⟩ := hs1.laid (u := .xd (ks.zip vs).reverse) hd
  exact hW C (some d) ks.reverse ds.reverse _ σ _ ρ μ1 q (.fs upd_same (zip_keys hvl) (by rw [zip_vals hvl]; exact (r1.mono g2).reverse) (fun z => G.ne (List.reverse_eq_nil_iff.mp z))) g1 (sl.mono (e1.trans g2))
end
/-! ### a caught refusal with fields: its class, its fields -/
section
open PySem.W
variable {prog : Program} {w : World} {A : Around} {E : Value → Shared → Prop} {s : Shared} {K : Frag} {x D : Addr} {ox : Obj} {od : Option Obj}
theorem findObj_descr {C : Addr} {name : Str} {a g : Value} (hc : (clsIn K C).isSome = true) (ha : findIn K (.ref C) name = some (some a)) (hg : specialIn K a "__get__" = some (some g)) (ht : takesIn K a = some true) : findObj K C od name = some (.bind g a) := by
  cases e : clsIn K C with
  | none => rw [e] at hc; cases hc
  | some cd =>
    unfold findObj
    rw [e, Option.bind_some, ha, Option.bind_some]
    simp [hg, ht]
theorem class_of_exc {Q : Option Value → Shared → Prop} (c : ExcC K D) (X : K.In s.heap) (I : InstAt s.heap x ox D od) (h : Q (some (.ref D)) { s with toks := s.toks + 1 }) : wpAny (model prog w) A (getAttr? (.ref x) "__class__") Q E s := by
  have hcls : (clsIn K D).isSome = true := by
    obtain ⟨cd, e, _⟩ := any_some c.hd
    rw [e]; rfl
  have hf := findObj_descr (od := od) hcls c.ha c.hn c.ht
  obtain ⟨hp, g, d, t, os⟩ := s
  have l0 := I.type (M := model prog w)
  have l1 := looks_findIn (M := model prog w) X c.hg
  have l2 := looks_findIn (M := model prog w) X c.hk
  have l3 := looks_find (M := model prog w) X I hf
  have lsub : Looks (model prog w) hp (isInstance (.ref x) (.type "BaseException")) true := l0.andThen (looks_subIn X c.hs)
  have n2 : (Value.builtin "BaseException.__getattribute__" == Value.builtin "object.__getattribute__") = false := by decide +kernel
  have n1 : (onTheHeap (Value.ref D) && Value.builtin "BaseException.__getattribute__" == Value.builtin "object.__getattribute__") = false := by rw [n2]; rfl
  have n0 : (false && onTheHeap (Value.builtin "BaseException.__getattribute__")) = false := rfl
  unfold getAttr? getAttrBy? getAttrBy
  apply wpAny_bind
  apply wpAny_mkText
  apply wpAny_bind
  apply wpAny_attempt
  apply wpAny_holding
  apply wpAny_bind
  apply l0.at
  apply wpAny_bind
  apply l1.at
  show wpAny _ _ (if (onTheHeap (Value.ref D) && Value.builtin "BaseException.__getattribute__" == Value.builtin "object.__getattribute__") = true then _ else _) _ _ _
  rw [n1, if_neg Bool.false_ne_true]
  unfold getAttrByItsOwn hookBefore
  apply wpAny_bind
  rw [if_pos (show onTheHeap (Value.ref D) = true from rfl)]
  apply l2.at
  apply wpAny_bind
  apply wpAny_attempt
  apply wpAny_holding
  unfold callGetattribute
  rw [n0, if_neg Bool.false_ne_true]
  unfold boundAndCalled
  rw [PySem.F.excAttr_ValueError.ga.bind (.ref x)]
  apply wpAny_bind
  apply wpAny_pure
  show wpAny _ _ (call (.builtin "BaseException.__getattribute__") [.ref x, .str "__class__" t]) _ _ _
  apply wpAny_call
  apply codeAny_call_builtin PySem.F.excAttr_ValueError.ga.plain PySem.F.entry_bexc_ga
  refine @check_slot (model prog w) _ _ ⟨hp, g, d, t + 1, os⟩ "BaseException.__getattribute__" "BaseException" "__getattribute__" (.ref x) [.str "__class__" t] [] _ (by decide +kernel) (by decide +kernel) lsub (PySem.F.args_bexc_ga (.ref x) (.str "__class__" t)) ?_
  unfold Builtin.«object.__getattribute__»
  apply wpAny_bind
  refine wpAny_of_eq (a := ((Value.ref x : Value), [Value.str "__class__" t])) (by first | rfl | (simp only [slotArgs]; rfl)) ?_
  apply wpAny_bind
  apply wpAny_pure
  apply wpAny_bind
  apply l0.at
  apply wpAny_bind
  apply l3.at
  show wpAny _ _ (holding [Value.builtin "object.__class__"] (call (.builtin "getset_descriptor.__get__") [.builtin "object.__class__", .ref x, .ref D]) >>= ret) _ _ _
  apply wpAny_bind
  apply wpAny_holding
  refine wpAny_call (class_get (s := ⟨hp, g, d, t + 1, os⟩) (ox := ox) (od := od) X I c.hm ?_)
  apply wpAny_pure
  show wpAny _ _ (handedOut (.ref D)) _ _ _
  rw [handedOut_of (v := .ref D) rfl]
  first
    | exact wpAny_pure (wpAny_pure h)
    | exact wpAny_pure h
    | exact wpAny_pure (wpAny_bind (wpAny_pure (wpAny_pure h)))
theorem kitx_excF (c : ExcC K D) : KitX K (.ref x) (.ref D) (fun h => ∃ od, InstAt h x ox D od) where
  ty := fun _ _ _ ⟨_, I⟩ => I.type
  it := fun _ _ X _ => by
    obtain ⟨cdD, hcD, _⟩ := any_some c.hd
    unfold clsIn at hcD
    split at hcD
    · rename_i ho
      intro A' Q' E' s' k q
      unfold isType loadHead
      apply wpAny_bind
      exact wpAny_loadPart (k _ _ (X _ _ ho)) (wpAny_pure q)
    · cases hcD
  ne := fun h tp dd its n sl X htp => by
    obtain ⟨cdD, hcD, _⟩ := any_some c.hd
    rw [Bool.eq_false_iff]
    intro q
    have e : D = tp := Value.ref.inj (beq_iff_eq.mp q)
    subst e
    unfold clsIn at hcD
    split at hcD
    · rename_i ho
      cases (X _ _ ho).symm.trans htp
    · cases hcD
  ca := fun X ⟨_, I⟩ k => class_of_exc c X I k
end
section
variable {X : Cy} {μ : Mu} {Φ : D → Mu → Prop} {C a : Addr} {ks : List Str} {vs : List D}
theorem isi_excF {pins : List (Addr × Obj)} {σ : L2.St} {H : Hp} {s : Shared} {C a d : Addr} {o : Obj} {u : HO} {fs : Array Value} {kvs : List (Str × V)} (I : Inv X.c pins σ H s) (ha : H a = some (.frz o u)) (h1 : o.cls = .ref C) (h2 : o.dict = some d) (h3 : o.data = .fields fs) (h4 : H d = some (.xd kvs)) :
    ∃ od, PySem.W.InstAt s.heap a o C od := by
  obtain ⟨mA, hns, hr⟩ := (show ObjOk X.prog X.w H s.heap d (.xd kvs) from I.hok d _ h4)
  obtain ⟨od, ho, hl⟩ := lookIn_ns hns
  refine ⟨some od, (I.hok a _ ha).1, h1, ?_, ?_⟩
  · unfold PySem.W.notCls; rw [h3] <;> rfl
  · rw [h2]; exact ho
theorem c_isEF {c : D} {cv : Value} {b : Bool} (m : Nat) (hm : μ[m]? = some (a, .exc C ks vs)) (hne : ks ≠ []) (hC : ExcC X.K C) (hc : ClsD c cv) (hk : PySem.W.kitOne X.K (.ref C) cv = some b) (k : Φ (.bl b) μ) : wCl X (.builtin "isinstance") [.ptr a, c] μ Φ := by
  intro F H xs hs r1 Q kt pins s σ us I rv
  cases r1 with
  | cons r rr =>
  cases rr with
  | cons r2 rr =>
  cases rr
  cases r
  obtain ⟨u1, u2, rfl, ru1, ru2⟩ := vals2 rv
  cases (show u1 = Value.ref a from ru1)
  have e2 := (hc.v r2).eq ru2
  subst e2
  obtain ⟨_, u, hu, ro⟩ := hs.at_ hm
  cases ro with
  | exc h1 h2 h3 => exact absurd rfl hne
  | excF h1 h2 h3 h4 h5 h6 ne => exact PySem.W.kia_one (kitx_excF hC) I.kIn (isi_excF I hu h1 h2 h3 (hs.ex _ _ h4)) hk (fun z => nomatch z) fun tk => ⟨.bl b, H, I.tok tk, rfl, kt.now k hs (.bl b)⟩
theorem c_isETF {cs : List D} {us : List Value} {b : Bool} (m : Nat) (hm : μ[m]? = some (a, .exc C ks vs)) (hne : ks ≠ []) (hC : ExcC X.K C) (hc : Paired ClsD cs us) (hk : PySem.W.kitAny X.K (.ref C) us = some b) (k : Φ (.bl b) μ) : wCl X (.builtin "isinstance") [.ptr a, .tup cs] μ Φ := by
  intro F H xs hs r1 Q kt pins s σ ws I rv
  cases r1 with
  | cons r rr =>
  cases rr with
  | cons r2 rr =>
  cases rr
  cases r
  cases r2 with
  | tup g rs =>
  obtain ⟨u1, u2, rfl, ru1, ru2⟩ := vals2 rv
  cases (show u1 = Value.ref a from ru1)
  rename_i tp ys
  cases (show u2 = Value.ref tp from ru2)
  obtain ⟨_, its, rvs, oo, h1, h2, n, h3⟩ := (show ObjOk X.prog X.w H s.heap tp (.tup ys) from I.hok tp _ (hs.ex _ _ g))
  have e3 := ClsV.all (ClsD.vs hc rs) rvs
  subst e3
  obtain ⟨oc, od, dt, sl⟩ := oo
  simp only at h2 h3
  subst h2 h3
  obtain ⟨_, u, hu, ro⟩ := hs.at_ hm
  cases ro with
  | exc g1 g2 g3 => exact absurd rfl hne
  | excF g1 g2 g3 g4 g5 g6 ne => exact PySem.W.kia_tup (kitx_excF hC) I.kIn (isi_excF I hu g1 g2 g3 (hs.ex _ _ g4)) h1 hk (fun z => nomatch z) fun tk => ⟨.bl b, H, I.tok tk, rfl, kt.now k hs (.bl b)⟩
theorem xd_lookup {K : PySem.W.Frag} {F : Hp} {n : Str} {d : D} : ∀ {kvs : List (Str × V)} {ks : List Str} {vs : List D}, kvs.map (·.1) = ks → Reps K F (kvs.map (·.2)) vs → (ks.zip vs).lookup n = some d → ∃ v, kvs.lookup n = some v ∧ Rep K F v d
  | [], [], _, _, _, h => by cases h
  | (k, v) :: kvs, k' :: ks, [], _, r, h => by cases r
  | (k, v) :: kvs, k' :: ks, x :: vs, e, .cons r rr, h => by
    rw [List.map_cons] at e
    injection e with e1 e2
    have e1 : k = k' := e1
    subst e1
    rw [List.zip_cons_cons, List.lookup_cons] at h
    rw [List.lookup_cons]
    by_cases hn : (n == k) = true
    · rw [hn] at h ⊢
      cases h
      exact ⟨v, rfl, r⟩
    · rw [Bool.not_eq_true] at hn
      rw [hn] at h ⊢
      exact xd_lookup e2 rr h
/-- e.n, e a refusal that was caught -/
theorem w_xf {e : Expr} {ρ : Rho} {n : Str} {pos : Pos} (h : wE X e ρ μ fun d1 μ1 => ∃ (a C : Addr) (m : Nat) (ks : List Str) (vs : List D) (d : D), d1 = .ptr a ∧ μ1[m]? = some (a, .exc C ks vs) ∧ ks ≠ [] ∧ XfC X.K C ∧ PySem.W.findIn X.K (.ref C) n = some none ∧ (ks.zip vs).lookup n = some d ∧ Φ d μ1)
    (hb : attributeBase e n X.env (eval e X.env) = eval e X.env := by rfl) : wE X (.Attribute e n pos) ρ μ Φ := fun F σ H hs sl Q kt pins s I => by
  refine attr_of hb ?_
  refine thn (h F σ H hs sl (fun v H1 => ∃ F1 d1 μ1, Ex F F1 ∧ Hs X.K F1 μ1 H1 ∧ Rep X.K F1 v d1 ∧ ∃ (a C : Addr) (m : Nat) (ks : List Str) (vs : List D) (d : D), d1 = .ptr a ∧ μ1[m]? = some (a, .exc C ks vs) ∧ ks ≠ [] ∧ XfC X.K C ∧ PySem.W.findIn X.K (.ref C) n = some none ∧ (ks.zip vs).lookup n = some d ∧ Φ d μ1) (fun v F1 H1 d1 μ1 q e1 hs1 r1 => ⟨F1, d1, μ1, e1, hs1, r1, q⟩) pins s I) ?_
  rintro u s1 ⟨v, H1, I1, rv, F1, d1, μ1, e1, hs1, r1, a, C, m, ks, vs, d, rfl, hm, hne, T, hno, hl, q⟩
  cases r1
  have eu : u = Value.ref a := rv
  subst eu
  obtain ⟨_, o, ho, ro⟩ := hs1.at_ hm
  cases ro with
  | exc h1 h2 h3 => exact absurd rfl hne
  | excF h1 h2 h3 h4 h5 h6 ne =>
    rename_i dd ob uu fs kvs
    obtain ⟨y, hy, ry⟩ := xd_lookup h5 h6 hl
    have hd := hs1.ex _ _ h4
    obtain ⟨mA, hns, hr⟩ := (show ObjOk X.prog X.w H1 s1.heap dd (.xd kvs) from I1.hok dd _ hd)
    obtain ⟨od, hod, hlk⟩ := lookIn_ns hns
    obtain ⟨z, hz, rz⟩ := RelO.some_of (v := y) (o := mA n) (by rw [← hy]; exact hr n)
    have J : PySem.W.InstAt s1.heap a ob C (some od) := by
      refine ⟨(I1.hok a _ ho).1, h1, ?_, ?_⟩
      · unfold PySem.W.notCls; rw [h3] <;> rfl
      · rw [h2]; exact hod
    exact HandSPX.exc_get I1.kIn J T.ga T.gg T.exC (PySem.W.findObj_own T.hdC hno rfl (by rw [hlk, hz])) (handed_of rz) ⟨y, H1, I1.tok _, rz, kt y F1 H1 d μ1 q e1 hs1 ry⟩
/-- C(e, ..).n: a refusal that is made alone, one of its fields -/
theorem w_mkxf {C : Addr} {x n : Str} {k k0 : Nat} {ks : List Str} {e : Expr} {es : List Expr} {ρ : Rho} {p pos pos2 : Pos} (G : InitO X.prog X.w X.K X.mg X.base C k ks) (hr : Rm k0 X.A) (gC : X.mg x = some (.ref C)) (T2 : XfC X.K C) (hno : PySem.W.findIn X.K (.ref C) n = some none) (kC : PySem.W.keepIn X.K (.ref C) = true)
    (h : wA X (e :: es) ρ μ fun ds μ1 => ds.length = ks.length ∧ ∃ d, (ks.reverse.zip ds.reverse).lookup n = some d ∧ Φ d μ1) (hkk : ks.length ≤ 1000 := by decide) (hk : k + 1 ≤ k0 := by decide) (hg : Gl X x := by rfl)
    (hdb : (x == ("__debug__" : Str)) = false := by decide) (he : starEach (e :: es) X.env = (false, eval e X.env) :: starEach es X.env := by rfl) (hpl : (backTo pos (starEach es X.env)).any (·.1) = false := by rfl)
    (hb : attributeBase (.Call (.Name x p) (e :: es) [] pos) n X.env (eval (.Call (.Name x p) (e :: es) [] pos) X.env) = eval (.Call (.Name x p) (e :: es) [] pos) X.env := by rfl) : wE X (.Attribute (.Call (.Name x p) (e :: es) [] pos) n pos2) ρ μ Φ := fun F σ H hs sl Q kt pins s I => by
  obtain ⟨fI, fd, sp, ps, T, iC, tI, F1, hbn, hsp⟩ := G.ex
  obtain ⟨nm, q9, N, bs, bm, sn, sub, ab, col, dd, k0', k1, k2, k3, k5, hC, hbm⟩ := T.cls
  apply attr_of hb
  apply wpAny_Call_Name_kw
  apply ld_glob I hg gC (hd := hdb)
  refine PySem.W.callWith_K (h₀ := X.base) I.ok.mod.kin kC (thn (pa_s.run pos pins s σ H (fun vs H1 => ∃ F1 ds μ1, Ex F F1 ∧ Hs X.K F1 μ1 H1 ∧ Reps X.K F1 vs ds ∧ ds.length = ks.length ∧ ∃ d, (ks.reverse.zip ds.reverse).lookup n = some d ∧ Φ d μ1) I (h F σ H hs sl _ fun vs F1 H1 ds μ1 q e1 hs1 r1 => ⟨F1, ds, μ1, e1, hs1, r1, q⟩)) fun us s1 hx => ?_) he hpl
  obtain ⟨vs, H1, I1, r1, F2, ds, μ1, e1, hs1, rr, hl, d, hd, q⟩ := hx
  refine ⟨I1.kIn, ?_⟩
  show wpAny _ _ (call (.ref C) us) _ _ _
  have hvl : vs.length = ks.length := by rw [rr.length]; exact hl
  obtain ⟨hp, g, dr, tk, os⟩ := s1
  have hn : H1 (hp.objs.size + 1) = none := I1.hok.fresh (Nat.le_succ _)
  have hget : ((hp.push (PySem.W.kdv_tup us)).push (PySem.HandSPX.excO C hp.objs.size)).get? (hp.objs.size + 1) = some (PySem.HandSPX.excO C hp.objs.size) := by heap_get
  have I2 : Inv X.c pins σ (upd H1 (hp.objs.size + 1) (exo (hp.objs.size + 1) C none)) ⟨(hp.push (PySem.W.kdv_tup us)).push (PySem.HandSPX.excO C hp.objs.size), g, dr, tk, os⟩ :=
    I1.laid (t' := tk) (fun b o z => Heap.get?_push_of_some _ (Heap.get?_push_of_some _ z)) (Nat.le_succ _) (exo_ok hget)
  have r2 : Vals (V.ref (hp.objs.size + 1) :: vs) (Value.ref (hp.objs.size + 1) :: us) := .cons rfl r1
  have hq : sp (.ref (hp.objs.size + 1) :: vs) (upd H1 (hp.objs.size + 1) (exo (hp.objs.size + 1) C none)) (fun v H2 => v = .non ∧ ∃ dx, H1 dx = none ∧ dx ≠ hp.objs.size + 1 ∧ H2 = upd (upd H1 dx (exd dx (ks.zip vs).reverse)) (hp.objs.size + 1) (exo (hp.objs.size + 1) C (some dx))) (fun _ _ _ => False) :=
    hsp vs _ _ _ _ hvl upd_same fun dx H2 h1 h2 h3 h4 h5 => ⟨rfl, dx, by rw [upd_ne h2] at h1; exact h1, h2, by
      funext b
      by_cases b1 : b = hp.objs.size + 1
      · rw [b1, upd_same, h3]
      · rw [upd_ne b1]
        by_cases b2 : b = dx
        · rw [b2, upd_same, h4]
        · rw [upd_ne b2, h5 b b1 b2, upd_ne b1]⟩
  have hlen : (Value.ref (hp.objs.size + 1) :: us).length = ps.length := by
    rw [← r2.length]
    exact F1.len _ _ _ _ hq
  have hus : us.length ≤ sizeLine := by rw [← Paired.length r1, sizeLine_eq]; omega
  have b1 := hbn _ (Value.ref (hp.objs.size + 1) :: us) I2.kIn (by rw [List.append_nil]; exact hlen)
  rw [List.append_nil] at b1
  refine wpAny_call (PySem.HandSPX.call_own PySem.F.excBase_ValueError (fun Y => PySem.HandSPX.refsVE_contains Y bm hbm) (I1.kIn _ _ hC) (PySem.W.looks_findIn I1.kIn iC) (fun self => PySem.W.bind_fn I1.kIn self tI) hus
    (codeAny_mono (F1.run _ X.stack _ _ ⟨Value.ref (hp.objs.size + 1) :: us, []⟩ _ _ _ (fun _ _ _ => False) ((hr.le hk).r.make C us []) (I2.env0.make C us []) b1 r2 hq) fun r s' hq' => ?_))
  cases r with
  | error er => exact hq'.elim
  | ok fl =>
    cases fl with
    | ret u =>
      obtain ⟨v, H2, os2, bare2, un2, hok2, rv, ev, dx, h1, h2, eH⟩ := hq'
      subst ev
      refine ⟨rv, ?_⟩
      subst eH
      have J : Inv X.c pins σ _ s' := I2.call' (ch := []) os2 un2 hok2 bare2 (fun b z => absurd z (by simp))
      show wpAny (model X.prog X.w) X.A (getAttr (Value.ref (hp.objs.size + 1)) n true) (EP X.c pins σ Q) X.xe s'
      have hA : upd (upd H1 dx (exd dx (ks.zip vs).reverse)) (hp.objs.size + 1) (exo (hp.objs.size + 1) C (some dx)) (hp.objs.size + 1) = some (exo (hp.objs.size + 1) C (some dx)) := upd_same
      have hD : upd (upd H1 dx (exd dx (ks.zip vs).reverse)) (hp.objs.size + 1) (exo (hp.objs.size + 1) C (some dx)) dx = some (exd dx (ks.zip vs).reverse) := by rw [upd_ne h2, upd_same]
      obtain ⟨t1, hoe⟩ := exo_at J.hok hA
      obtain ⟨mA, hns, hrel⟩ := exd_at J.hok hD
      obtain ⟨od, hod, hlk⟩ := lookIn_ns hns
      obtain ⟨y, hy, ry⟩ := xd_lookup (zip_keys hvl) (by rw [zip_vals hvl]; exact rr.reverse) hd
      obtain ⟨z, hz, rz⟩ := RelO.some_of (v := y) (o := mA n) (by rw [← hy]; exact hrel n)
      have JI : PySem.W.InstAt s'.heap (hp.objs.size + 1) _ C (some od) := ⟨hoe, rfl, rfl, hod⟩
      obtain ⟨g1, g2⟩ := hs1.laid (u := exd dx (ks.zip vs).reverse) h1
      obtain ⟨g3, g4⟩ := g1.laid (p := hp.objs.size + 1) (u := exo (hp.objs.size + 1) C (some dx)) (by rw [upd_ne (Ne.symm h2)]; exact hn)
      exact HandSPX.exc_get J.kIn JI T2.ga T2.gg T2.exC (PySem.W.findObj_own T2.hdC hno rfl (by rw [hlk, hz])) (handed_of rz) ⟨y, _, J.tok _, rz, kt y _ _ d μ1 q (e1.trans (g2.trans g4)) g3 (ry.mono (g2.trans g4))⟩
    | next => exact False.elim hq'
    | brk => exact False.elim hq'
    | cont => exact False.elim hq'
end
end Oc

/-! Own layer: a def called through a parameter; a refusal with fields that is made and kept. -/
namespace Oc
open PySem PySem.Spec L2
open Evl (Ex)
section
variable {X : Cy} {e : Expr} {es : List Expr} {ρ : Rho} {μ : Mu} {Φ : D → Mu → Prop} {pos p : Pos} {Ψ : Addr → List Str → List D → Rho → Mu → Prop}
/-- a call of the def x, which stands in the i-th slot, and may raise -/
theorem w_callPX {x y : Str} {k k0 : Nat} {ps : List Str} {S : FX} {g : Addr} (i : Nat) (G : KnX X.prog X.w X.K X.mg X.base k x ps S) (tk : Tk X Ψ) (hr : Rm k0 X.A) (hi : ρ[i]? = some (some (.ptr g))) (hm : X.mg x = some (.ref g)) (h : wA X (e :: es) ρ μ fun ds μ1 => S ds μ1 Φ fun C ks vs μ2 => Ψ C ks vs ρ μ2) (hk : k ≤ k0 := by decide) (hN : X.N[i]? = some y := by rfl) (hv : Vis X.env.scope y := by exact .inl rfl)
    (hdb : (y == ("__debug__" : Str)) = false := by decide) (hcd : (y == ("__classdict__" : Str)) = false := by decide)
    (he : starEach (e :: es) X.env = (false, eval e X.env) :: starEach es X.env := by rfl) (hpl : (backTo pos (starEach es X.env)).any (·.1) = false := by rfl) : wE X (.Call (.Name y p) (e :: es) [] pos) ρ μ Φ := by
  obtain ⟨f, fd, hm', kp, hb, G⟩ := G.ex
  have ef : f = g := by
    rw [hm] at hm'
    cases hm'
    rfl
  subst ef
  obtain ⟨W, tW, hW⟩ := tk
  have P1 : PE X (.Call (.Name y p) (e :: es) [] pos) fun σ H Q => σ[i]? = some (some (.ref f)) ∧ sA X (e :: es) σ H fun vs H1 => spX X.K S vs H1 Q fun cls d H2 => W cls d σ H2 := by
    refine ⟨fun pins s σ H Q I h => ?_⟩
    obtain ⟨hsl, h⟩ := h
    refine wpAny_Call_Name_kw (thn ((pe_var (pos := p) hN hv hdb hcd).run pins s σ H (fun v H1 => v = .ref f ∧ H1 = H) I ⟨.ref f, hsl, rfl, rfl⟩) fun u s1 ⟨v, H1, I1, r1, q1⟩ => ?_)
    obtain ⟨rfl, rfl⟩ := q1
    cases r1
    exact PySem.W.callWith_K (h₀ := X.base) I1.ok.mod.kin kp (thn (pa_s.run pos pins s1 σ _ _ I1 h) fun us s2 ⟨vs, H2, I2, r, q⟩ => ⟨I2.kIn, fnX_run G (hr.le hk) hb (fun e s' c => tW e s' (XE.of_call I2 (fun _ _ _ h => h) c)) I2 r q⟩) he hpl
  intro F σ H hs sl Q kt
  obtain ⟨v0, g1, g2⟩ := sl.at_ i _ hi
  cases g2
  exact se_of P1 ⟨g1, h F σ H hs sl _ fun xs F1 H1 ds μ1 q e1 hs1 r1 => ⟨X.g, F1, ds, μ1, Φ, _, hs1, r1, q, kt.mono e1, fun C d ks vs F2 H2 μ2 z x2 e2 hs2 => hW C d ks vs F2 σ H2 ρ μ2 z x2 hs2 (sl.mono (e1.trans e2))⟩⟩
/-- .. which doesn't raise -/
theorem w_callPG {x y : Str} {k k0 : Nat} {ps : List Str} {S : FS} {g : Addr} (i : Nat) (G : KnG X.prog X.w X.K X.mg X.base k x ps S) (hr : Rm k0 X.A) (hi : ρ[i]? = some (some (.ptr g))) (hm : X.mg x = some (.ref g)) (h : wA X (e :: es) ρ μ fun ds μ1 => S ds μ1 Φ) (hk : k ≤ k0 := by decide) (hN : X.N[i]? = some y := by rfl) (hv : Vis X.env.scope y := by exact .inl rfl)
    (hdb : (y == ("__debug__" : Str)) = false := by decide) (hcd : (y == ("__classdict__" : Str)) = false := by decide)
    (he : starEach (e :: es) X.env = (false, eval e X.env) :: starEach es X.env := by rfl) (hpl : (backTo pos (starEach es X.env)).any (·.1) = false := by rfl) : wE X (.Call (.Name y p) (e :: es) [] pos) ρ μ Φ := by
  obtain ⟨f, fd, hm', kp, hb, G⟩ := G.ex
  have ef : f = g := by
    rw [hm] at hm'
    cases hm'
    rfl
  subst ef
  have P1 : PE X (.Call (.Name y p) (e :: es) [] pos) fun σ H Q => σ[i]? = some (some (.ref f)) ∧ sA X (e :: es) σ H fun vs H1 => spD X.K S vs H1 Q E0 := by
    refine ⟨fun pins s σ H Q I h => ?_⟩
    obtain ⟨hsl, h⟩ := h
    refine wpAny_Call_Name_kw (thn ((pe_var (pos := p) hN hv hdb hcd).run pins s σ H (fun v H1 => v = .ref f ∧ H1 = H) I ⟨.ref f, hsl, rfl, rfl⟩) fun u s1 ⟨v, H1, I1, r1, q1⟩ => ?_)
    obtain ⟨rfl, rfl⟩ := q1
    cases r1
    exact PySem.W.callWith_K (h₀ := X.base) I1.ok.mod.kin kp (thn (pa_s.run pos pins s1 σ _ _ I1 h) fun us s2 ⟨vs, H2, I2, r, q⟩ => ⟨I2.kIn, fnG_run G (hr.le hk) hb I2 r q⟩) he hpl
  intro F σ H hs sl Q kt
  obtain ⟨v0, g1, g2⟩ := sl.at_ i _ hi
  cases g2
  exact se_of P1 ⟨g1, h F σ H hs sl _ fun xs F1 H1 ds μ1 q e1 hs1 r1 => ⟨X.g, F1, ds, μ1, Φ, hs1, r1, q, kt.mono e1⟩⟩
/-- a def by its name -/
theorem w_fnv {x : Str} {f : Addr} (gC : X.mg x = some (.ref f)) (k : Φ (.ptr f) μ) (hg : Gl X x := by rfl) (hd : (x == ("__debug__" : Str)) = false := by decide) : wE X (.Name x pos) ρ μ Φ := w_cls gC k hg hd
end
/-! ### a refusal that is made and kept -/
theorem turn_exo {X : Cx} {pins : List (Addr × Obj)} {σ : L2.St} {H : Hp} {s : Shared} {x C d : Addr} {kvs : List (Str × V)} (I : Inv X pins σ H s) (hx : H x = some (exo x C (some d))) (hd : H d = some (exd d kvs)) (hxd : d ≠ x) :
    ∃ t1 : Addr, Inv X pins σ (upd (upd H d (.xd kvs)) x (.frz { cls := .ref C, dict := some d, data := .fields #[.ref t1, .none, .none, .none, .bool false, .none] } (.own x))) s := by
  obtain ⟨t1, ho⟩ := exo_at I.hok hx
  obtain ⟨mA, hns, hrel⟩ := exd_at I.hok hd
  unfold exo at hx
  unfold exd at hd
  refine ⟨t1, ?_⟩
  have off : ∀ b, H b = none → b ≠ x ∧ b ≠ d := fun b z => ⟨fun e => (by rw [e, hx] at z; cases z), fun e => (by rw [e, hd] at z; cases z)⟩
  have stay : ∀ b u, H b = some u → (∀ φ, u ≠ .ext φ) → b ≠ x ∧ b ≠ d := fun b u z n => ⟨fun e => (by rw [e, hx] at z; cases z; exact n _ rfl), fun e => (by rw [e, hd] at z; cases z; exact n _ rfl)⟩
  have up : ∀ b, b ≠ x ∧ b ≠ d → upd (upd H d (.xd kvs)) x (.frz { cls := .ref C, dict := some d, data := .fields #[.ref t1, .none, .none, .none, .bool false, .none] } (.own x)) b = H b := fun b ⟨h1, h2⟩ => by rw [upd_ne h1, upd_ne h2]
  have keep : ∀ b u, H b = some u → (∀ φ, u ≠ .ext φ) → upd (upd H d (.xd kvs)) x (.frz { cls := .ref C, dict := some d, data := .fields #[.ref t1, .none, .none, .none, .bool false, .none] } (.own x)) b = some u := fun b u z n => by rw [up b (stay b u z n)]; exact z
  have none_ : ∀ b, H b = none → upd (upd H d (.xd kvs)) x (.frz { cls := .ref C, dict := some d, data := .fields #[.ref t1, .none, .none, .none, .bool false, .none] } (.own x)) b = none := fun b z => by rw [up b (off b z)]; exact z
  exact
    { ok := I.ok, os := I.os, bare := I.bare, loc := I.loc, cell := I.cell, len := I.len
      base := ⟨I.base.keep, I.base.slot, fun b o e n hx => none_ b (I.base.free b o e n hx), I.base.there, fun b xs e => keep b _ (I.base.tups b xs e) (fun φ z => nomatch z), fun b o u e => keep b _ (I.base.frzs b o u e) (fun φ z => nomatch z), fun b ps e => by
        obtain ⟨m, q⟩ := I.base.tbls b ps e
        exact ⟨m, keep b _ q (fun φ z => nomatch z)⟩⟩
      free := none_ _ I.free
      freeC := fun y c e => none_ _ (I.freeC y c e)
      pin := fun p hp => by
        obtain ⟨e, n, r⟩ := I.pin p hp
        exact ⟨e, none_ _ n, r⟩
      hok := fun b u e => by
        by_cases hb : b = x
        · subst hb
          rw [upd_same] at e
          cases e
          exact ⟨ho, _, ho⟩
        · rw [upd_ne hb] at e
          by_cases hb2 : b = d
          · subst hb2
            rw [upd_same] at e
            cases e
            exact ⟨mA, hns, hrel⟩
          · rw [upd_ne hb2] at e
            exact (I.hok b u e).stay (fun c v _ q => q) (fun c q => keep c _ q (fun φ z => nomatch z)) fun c xs q => keep c _ q (fun φ z => nomatch z) }
section
variable {X : Cy} {μ : Mu} {Φ : D → Mu → Prop}
/-- C(e, ..): a refusal that is made and kept -/
theorem w_mkI {C : Addr} {x : Str} {k k0 : Nat} {ks : List Str} {e : Expr} {es : List Expr} {ρ : Rho} {p pos : Pos} (G : InitO X.prog X.w X.K X.mg X.base C k ks) (hr : Rm k0 X.A) (gC : X.mg x = some (.ref C)) (T2 : XfC X.K C) (kC : PySem.W.keepIn X.K (.ref C) = true)
    (h : wA X (e :: es) ρ μ fun ds μ1 => ds.length = ks.length ∧ ∀ a, Φ (.ptr a) ((a, .exc C ks.reverse ds.reverse) :: μ1)) (hkk : ks.length ≤ 1000 := by decide) (hk : k + 1 ≤ k0 := by decide) (hg : Gl X x := by rfl)
    (hdb : (x == ("__debug__" : Str)) = false := by decide) (he : starEach (e :: es) X.env = (false, eval e X.env) :: starEach es X.env := by rfl) (hpl : (backTo pos (starEach es X.env)).any (·.1) = false := by rfl) : wE X (.Call (.Name x p) (e :: es) [] pos) ρ μ Φ := fun F σ H hs sl Q kt pins s I => by
  obtain ⟨fI, fd, sp, ps, T, iC, tI, F1, hbn, hsp⟩ := G.ex
  obtain ⟨nm, q9, N, bs, bm, sn, sub, ab, col, dd, k0', k1, k2, k3, k5, hC, hbm⟩ := T.cls
  apply wpAny_Call_Name_kw
  apply ld_glob I hg gC (hd := hdb)
  refine PySem.W.callWith_K (h₀ := X.base) I.ok.mod.kin kC (thn (pa_s.run pos pins s σ H (fun vs H1 => ∃ F1 ds μ1, Ex F F1 ∧ Hs X.K F1 μ1 H1 ∧ Reps X.K F1 vs ds ∧ ds.length = ks.length ∧ ∀ a, Φ (.ptr a) ((a, .exc C ks.reverse ds.reverse) :: μ1)) I (h F σ H hs sl _ fun vs F1 H1 ds μ1 q e1 hs1 r1 => ⟨F1, ds, μ1, e1, hs1, r1, q⟩)) fun us s1 hx => ?_) he hpl
  obtain ⟨vs, H1, I1, r1, F2, ds, μ1, e1, hs1, rr, hl, q⟩ := hx
  refine ⟨I1.kIn, ?_⟩
  show wpAny _ _ (call (.ref C) us) _ _ _
  have hvl : vs.length = ks.length := by rw [rr.length]; exact hl
  obtain ⟨hp, g, dr, tk, os⟩ := s1
  have hn : H1 (hp.objs.size + 1) = none := I1.hok.fresh (Nat.le_succ _)
  have hget : ((hp.push (PySem.W.kdv_tup us)).push (PySem.HandSPX.excO C hp.objs.size)).get? (hp.objs.size + 1) = some (PySem.HandSPX.excO C hp.objs.size) := by heap_get
  have I2 : Inv X.c pins σ (upd H1 (hp.objs.size + 1) (exo (hp.objs.size + 1) C none)) ⟨(hp.push (PySem.W.kdv_tup us)).push (PySem.HandSPX.excO C hp.objs.size), g, dr, tk, os⟩ :=
    I1.laid (t' := tk) (fun b o z => Heap.get?_push_of_some _ (Heap.get?_push_of_some _ z)) (Nat.le_succ _) (exo_ok hget)
  have r2 : Vals (V.ref (hp.objs.size + 1) :: vs) (Value.ref (hp.objs.size + 1) :: us) := .cons rfl r1
  have hq : sp (.ref (hp.objs.size + 1) :: vs) (upd H1 (hp.objs.size + 1) (exo (hp.objs.size + 1) C none)) (fun v H2 => v = .non ∧ ∃ dx, H1 dx = none ∧ dx ≠ hp.objs.size + 1 ∧ H2 = upd (upd H1 dx (exd dx (ks.zip vs).reverse)) (hp.objs.size + 1) (exo (hp.objs.size + 1) C (some dx))) (fun _ _ _ => False) :=
    hsp vs _ _ _ _ hvl upd_same fun dx H2 h1 h2 h3 h4 h5 => ⟨rfl, dx, by rw [upd_ne h2] at h1; exact h1, h2, by
      funext b
      by_cases b1 : b = hp.objs.size + 1
      · rw [b1, upd_same, h3]
      · rw [upd_ne b1]
        by_cases b2 : b = dx
        · rw [b2, upd_same, h4]
        · rw [upd_ne b2, h5 b b1 b2, upd_ne b1]⟩
  have hlen : (Value.ref (hp.objs.size + 1) :: us).length = ps.length := by
    rw [← r2.length]
    exact F1.len _ _ _ _ hq
  have hus : us.length ≤ sizeLine := by rw [← Paired.length r1, sizeLine_eq]; omega
  have b1 := hbn _ (Value.ref (hp.objs.size + 1) :: us) I2.kIn (by rw [List.append_nil]; exact hlen)
  rw [List.append_nil] at b1
  refine wpAny_call (PySem.HandSPX.call_own PySem.F.excBase_ValueError (fun Y => PySem.HandSPX.refsVE_contains Y bm hbm) (I1.kIn _ _ hC) (PySem.W.looks_findIn I1.kIn iC) (fun self => PySem.W.bind_fn I1.kIn self tI) hus
    (codeAny_mono (F1.run _ X.stack _ _ ⟨Value.ref (hp.objs.size + 1) :: us, []⟩ _ _ _ (fun _ _ _ => False) ((hr.le hk).r.make C us []) (I2.env0.make C us []) b1 r2 hq) fun r s' hq' => ?_))
  cases r with
  | error er => exact hq'.elim
  | ok fl =>
    cases fl with
    | ret u =>
      obtain ⟨v, H2, os2, bare2, un2, hok2, rv, ev, dx, h1, h2, eH⟩ := hq'
      subst ev
      refine ⟨rv, ?_⟩
      subst eH
      have J : Inv X.c pins σ _ s' := I2.call' (ch := []) os2 un2 hok2 bare2 (fun b z => absurd z (by simp))
      have hA : upd (upd H1 dx (exd dx (ks.zip vs).reverse)) (hp.objs.size + 1) (exo (hp.objs.size + 1) C (some dx)) (hp.objs.size + 1) = some (exo (hp.objs.size + 1) C (some dx)) := upd_same
      have hD : upd (upd H1 dx (exd dx (ks.zip vs).reverse)) (hp.objs.size + 1) (exo (hp.objs.size + 1) C (some dx)) dx = some (exd dx (ks.zip vs).reverse) := by rw [upd_ne h2, upd_same]
      obtain ⟨t1, J2⟩ := turn_exo J hA hD h2
      have eT : upd (upd (upd (upd H1 dx (exd dx (ks.zip vs).reverse)) (hp.objs.size + 1) (exo (hp.objs.size + 1) C (some dx))) dx (.xd (ks.zip vs).reverse)) (hp.objs.size + 1) (.frz { cls := .ref C, dict := some dx, data := .fields #[.ref t1, .none, .none, .none, .bool false, .none] } (.own (hp.objs.size + 1))) =
          upd (upd H1 dx (.xd (ks.zip vs).reverse)) (hp.objs.size + 1) (.frz { cls := .ref C, dict := some dx, data := .fields #[.ref t1, .none, .none, .none, .bool false, .none] } (.own (hp.objs.size + 1))) := by
        funext b
        by_cases z1 : b = hp.objs.size + 1
        · rw [z1, upd_same, upd_same]
        · rw [upd_ne z1, upd_ne z1]
          by_cases z2 : b = dx
          · rw [z2, upd_same, upd_same]
          · rw [upd_ne z2, upd_ne z2, upd_ne z1, upd_ne z2]
      rw [eT] at J2
      obtain ⟨g1, g2⟩ := hs1.laid (u := .xd (ks.zip vs).reverse) h1
      have g3 := g1.cell (p := hp.objs.size + 1) (u := .frz { cls := .ref C, dict := some dx, data := .fields #[.ref t1, .none, .none, .none, .bool false, .none] } (.own (hp.objs.size + 1))) (o := .exc C ks.reverse ds.reverse) (by rw [upd_ne (Ne.symm h2)]; exact hn)
        (.excF rfl rfl rfl upd_same (zip_keys hvl) (by rw [zip_vals hvl]; exact (rr.mono g2).reverse) (fun z => G.ne (List.reverse_eq_nil_iff.mp z)))
      exact ⟨.ref (hp.objs.size + 1), _, J2, rfl, kt _ _ _ (.ptr (hp.objs.size + 1)) _ (q _) (e1.trans g2) g3 (.ptr _)⟩
    | next => exact False.elim hq'
    | brk => exact False.elim hq'
    | cont => exact False.elim hq'
end
end Oc

namespace L37
open PySem PySem.Spec L2 Oc
open Evl (Ex)
local macro_rules | `(tactic| walk_at "s") => `(tactic| first | assumption | omega | decide | (simp only [] at *; omega))
local macro_rules | `(tactic| walk_at "Add") => `(tactic| first | refine o_addN ?_ | refine o_add ?_ | refine o_addS (by walk_at "s") ?_ | refine o_addT (by walk_at "s") ?_ | refine o_addL (by walk_at "s") ?_)
local macro_rules | `(tactic| walk_at "Sub") => `(tactic| refine o_sub ?_)
local macro_rules | `(tactic| walk_at "Mult") => `(tactic| refine o_mul (by walk_at "s") ?_)
local macro_rules | `(tactic| walk_at "Mod") => `(tactic| first | refine o_modN (by walk_at "s") ?_ | refine o_mod (by walk_at "s") ?_)
local macro_rules | `(tactic| walk_at "FloorDiv") => `(tactic| first | refine o_divN (by walk_at "s") ?_ | refine o_div (by walk_at "s") ?_)
local macro_rules | `(tactic| walk_at "Pow") => `(tactic| refine o_pow (by walk_at "s") ?_)
local macro_rules | `(tactic| walk_at "LShift") => `(tactic| refine o_shl (by walk_at "s") ?_)
local macro_rules | `(tactic| walk_at "RShift") => `(tactic| refine o_shr (by walk_at "s") ?_)
local macro_rules | `(tactic| walk_at "BitAnd") => `(tactic| refine o_band ?_)
local macro_rules | `(tactic| walk_at "BitXor") => `(tactic| refine o_bxor ?_)
local macro_rules | `(tactic| walk_at "BitOr") => `(tactic| refine o_bor ?_)
local macro_rules | `(tactic| walk_at "Lt") => `(tactic| refine o_lt ?_)
local macro_rules | `(tactic| walk_at "LtE") => `(tactic| refine o_le ?_)
local macro_rules | `(tactic| walk_at "Gt") => `(tactic| refine o_gt ?_)
local macro_rules | `(tactic| walk_at "GtE") => `(tactic| refine o_ge ?_)
local macro_rules | `(tactic| walk_at "Eq") => `(tactic| refine o_eq (by rfl) ?_)
local macro_rules | `(tactic| walk_at "NotEq") => `(tactic| refine o_ne (by rfl) ?_)
local macro_rules | `(tactic| walk_at "Is") => `(tactic| refine o_isN ?_)
local macro_rules | `(tactic| walk_at "IsNot") => `(tactic| refine o_notN ?_)
local macro_rules | `(tactic| walk_at "In") => `(tactic| refine o_in (by first | exact .inl rfl | exact .inr (.inl rfl) | exact .inr (.inr rfl)) (by rfl) (by rfl) ?_)
local macro_rules | `(tactic| walk_at "NotIn") => `(tactic| refine o_nin (by first | exact .inl rfl | exact .inr (.inl rfl) | exact .inr (.inr rfl)) (by rfl) (by rfl) ?_)
local macro_rules | `(tactic| walk_at "c_abs") => `(tactic| refine c_abs ?_)
local macro_rules | `(tactic| walk_at "c_len") => `(tactic| first | refine c_lenL ?_ | refine c_lenC ?_ | refine c_lenT ?_ | refine c_lenS (by walk_at "s") ?_ | refine c_lenP 0 (by first | assumption | rfl) ?_)
local macro_rules | `(tactic| walk_at "c_str") => `(tactic| refine c_str (by walk_at "s") ?_)
local macro_rules | `(tactic| walk_at "c_isinstance") => `(tactic| refine c_isi rfl (by rfl) ?_)
local macro_rules | `(tactic| walk_at "sl") => `(tactic| first | refine sd_tup ?_ | refine sd_lst ?_)
local macro_rules | `(tactic| walk_at "c_tuple") => `(tactic| first | refine c_tupL ?_ | refine c_tupP 0 (by first | assumption | rfl) ?_ | refine c_tupT ?_)
local macro_rules | `(tactic| walk_at "c_int") => `(tactic| first | refine c_intB ?_)
local macro_rules | `(tactic| walk_at "USub") => `(tactic| refine u_neg ?_)
local macro_rules | `(tactic| walk_at "pen") => `(tactic| first | assumption | exact get_set (by assumption) | exact get_set (get_set (by assumption)) | exact get_here | (apply get_cons; walk_at "pen") | (apply get_app; walk_at "pen"))
local macro_rules | `(tactic| walk_at "mu") => `(tactic| simp only [List.set_cons_succ, List.set_set, List.set_cons_zero])
def top (i : Nat) : Stmt := PySem.Challenge.pw_opencells_k37_clashes_and_too_many.main.body.getD i (.Pass ⟨0, 0, 0, 0⟩)
abbrev s_differ : Stmt := top 15
abbrev N_differ : List Str := ["one", "other"]
theorem sc_differ : FnScope N_differ ["one", "other"] (defScope s_differ) := ⟨rfl, rfl, rfl, by decide +kernel, rfl, by decide +kernel, by decide +kernel⟩
abbrev s_both_go : Stmt := top 16
abbrev N_both_go : List Str := ["machine", "one", "other", "ask", "goes", "there"]
theorem sc_both_go : FnScope N_both_go ["machine", "one", "other", "ask"] (defScope s_both_go) := ⟨rfl, rfl, rfl, by decide +kernel, rfl, by decide +kernel, by decide +kernel⟩
abbrev s_are_unlike : Stmt := top 17
abbrev N_are_unlike : List Str := ["machine", "one", "other", "ask"]
theorem sc_are_unlike : FnScope N_are_unlike ["machine", "one", "other", "ask"] (defScope s_are_unlike) := ⟨rfl, rfl, rfl, by decide +kernel, rfl, by decide +kernel, by decide +kernel⟩
abbrev s_pairs_of : Stmt := top 18
abbrev N_pairs_of : List Str := ["machine", "many", "k"]
theorem sc_pairs_of : FnScope N_pairs_of ["machine"] (defScope s_pairs_of) := ⟨rfl, rfl, rfl, by decide +kernel, rfl, by decide +kernel, by decide +kernel⟩
abbrev s_came_from : Stmt := top 19
abbrev N_came_from : List Str := ["machine", "found", "one", "other", "ask", "later"]
theorem sc_came_from : FnScope N_came_from ["machine"] (defScope s_came_from) := ⟨rfl, rfl, rfl, by decide +kernel, rfl, by decide +kernel, by decide +kernel⟩
abbrev s_part_table : Stmt := top 20
abbrev N_part_table : List Str := ["machine", "many", "table", "room", "waiting", "one", "other", "ask", "come"]
theorem sc_part_table : FnScope N_part_table ["machine"] (defScope s_part_table) := ⟨rfl, rfl, rfl, by decide +kernel, rfl, by decide +kernel, by decide +kernel⟩
abbrev s_parting : Stmt := top 21
abbrev N_parting : List Str := ["machine", "one", "other", "waiting", "met", "at", "here", "there", "row", "ask", "later"]
theorem sc_parting : FnScope N_parting ["machine", "one", "other"] (defScope s_parting) := ⟨rfl, rfl, rfl, by decide +kernel, rfl, by decide +kernel, by decide +kernel⟩
abbrev s_followers : Stmt := top 23
abbrev N_followers : List Str := ["machine", "rooms", "ask", "found", "room"]
theorem sc_followers : FnScope N_followers ["machine", "rooms", "ask"] (defScope s_followers) := ⟨rfl, rfl, rfl, by decide +kernel, rfl, by decide +kernel, by decide +kernel⟩
abbrev s_first_try : Stmt := top 25
abbrev N_first_try : List Str := []
theorem sc_first_try : FnScope N_first_try [] (defScope s_first_try) := ⟨rfl, rfl, rfl, by decide +kernel, rfl, by decide +kernel, by decide +kernel⟩
abbrev s_settled : Stmt := top 26
abbrev N_settled : List Str := ["machine", "lots", "ways", "found", "going", "key", "more", "whole"]
theorem sc_settled : FnScope N_settled ["machine", "lots", "ways"] (defScope s_settled) := ⟨rfl, rfl, rfl, by decide +kernel, rfl, by decide +kernel, by decide +kernel⟩
abbrev s_cut_of : Stmt := top 27
abbrev N_cut_of : List Str := ["table", "lots", "i", "lot", "at", "one", "other"]
theorem sc_cut_of : FnScope N_cut_of ["table", "lots"] (defScope s_cut_of) := ⟨rfl, rfl, rfl, by decide +kernel, rfl, by decide +kernel, by decide +kernel⟩
abbrev s_is_gap : Stmt := top 28
abbrev N_is_gap : List Str := ["machine", "lots", "ways", "i", "ask"]
theorem sc_is_gap : FnScope N_is_gap ["machine", "lots", "ways", "i", "ask"] (defScope s_is_gap) := ⟨rfl, rfl, rfl, by decide +kernel, rfl, by decide +kernel, by decide +kernel⟩
abbrev s_first_gap : Stmt := top 29
abbrev N_first_gap : List Str := ["machine", "lots", "ways", "i", "ask"]
theorem sc_first_gap : FnScope N_first_gap ["machine", "lots", "ways"] (defScope s_first_gap) := ⟨rfl, rfl, rfl, by decide +kernel, rfl, by decide +kernel, by decide +kernel⟩
abbrev s_led_to : Stmt := top 30
abbrev N_led_to : List Str := ["machine", "lots", "ways", "gap", "m", "found", "t", "more", "wider"]
theorem sc_led_to : FnScope N_led_to ["machine", "lots", "ways", "gap", "m"] (defScope s_led_to) := ⟨rfl, rfl, rfl, by decide +kernel, rfl, by decide +kernel, by decide +kernel⟩
abbrev s_gone_through : Stmt := top 31
abbrev N_gone_through : List Str := ["machine", "m", "most", "table", "waiting", "count", "lots", "ways", "gap"]
theorem sc_gone_through : FnScope N_gone_through ["machine", "m", "most"] (defScope s_gone_through) := ⟨rfl, rfl, rfl, by decide +kernel, rfl, by decide +kernel, by decide +kernel⟩
abbrev s_tree_for : Stmt := top 34
abbrev N_tree_for : List Str := ["machine", "table", "m", "lots", "ways", "cut", "gap", "trees", "more", "ways_there"]
theorem sc_tree_for : FnScope N_tree_for ["machine", "table", "m", "lots", "ways"] (defScope s_tree_for) := ⟨rfl, rfl, rfl, by decide +kernel, rfl, by decide +kernel, by decide +kernel⟩
abbrev s_told_paper : Stmt := top 35
abbrev N_told_paper : List Str := ["machine", "many", "lots", "ways"]
theorem sc_told_paper : FnScope N_told_paper ["machine", "many"] (defScope s_told_paper) := ⟨rfl, rfl, rfl, by decide +kernel, rfl, by decide +kernel, by decide +kernel⟩
abbrev s_answer_of : Stmt := top 36
abbrev N_answer_of : List Str := ["machine", "lot", "ask", "room", "answer"]
theorem sc_answer_of : FnScope N_answer_of ["machine", "lot", "ask"] (defScope s_answer_of) := ⟨rfl, rfl, rfl, by decide +kernel, rfl, by decide +kernel, by decide +kernel⟩
abbrev s_machine_of : Stmt := top 37
abbrev N_machine_of : List Str := ["machine", "lots", "ways", "rooms", "i", "lot", "cells", "ask"]
theorem sc_machine_of : FnScope N_machine_of ["machine", "lots", "ways"] (defScope s_machine_of) := ⟨rfl, rfl, rfl, by decide +kernel, rfl, by decide +kernel, by decide +kernel⟩
abbrev s_least : Stmt := top 38
abbrev N_least : List Str := ["machine", "m", "left", "found", "count", "lots", "ways", "paper"]
theorem sc_least : FnScope N_least ["machine"] (defScope s_least) := ⟨rfl, rfl, rfl, by decide +kernel, rfl, by decide +kernel, by decide +kernel⟩
abbrev s_told_answers : Stmt := top 41
abbrev N_told_answers : List Str := ["sheet", "known", "number", "told_row", "row", "answers", "place", "answer", "here"]
theorem sc_told_answers : FnScope N_told_answers ["sheet"] (defScope s_told_answers) := ⟨rfl, rfl, rfl, by decide +kernel, rfl, by decide +kernel, by decide +kernel⟩
abbrev s_beginnings : Stmt := top 42
abbrev N_beginnings : List Str := ["sheet", "found", "row", "answers", "size"]
theorem sc_beginnings : FnScope N_beginnings ["sheet"] (defScope s_beginnings) := ⟨rfl, rfl, rfl, by decide +kernel, rfl, by decide +kernel, by decide +kernel⟩
abbrev s_tree_of : Stmt := top 43
abbrev N_tree_of : List Str := ["asks", "sheet", "known", "rooms", "found", "row", "ask"]
theorem sc_tree_of : FnScope N_tree_of ["asks", "sheet"] (defScope s_tree_of) := ⟨rfl, rfl, rfl, by decide +kernel, rfl, by decide +kernel, by decide +kernel⟩
abbrev s_least_of : Stmt := top 44
abbrev N_least_of : List Str := ["asks", "sheet"]
theorem sc_least_of : FnScope N_least_of ["asks", "sheet"] (defScope s_least_of) := ⟨rfl, rfl, rfl, by decide +kernel, rfl, by decide +kernel, by decide +kernel⟩
abbrev s__law_pen : Stmt := top 46
abbrev N__law_pen : List Str := ["_law_script"]
theorem sc__law_pen : FnScope N__law_pen ["_law_script"] (defScope s__law_pen) := ⟨rfl, rfl, rfl, by decide +kernel, rfl, by decide +kernel, by decide +kernel⟩
abbrev s__law_draw : Stmt := top 47
abbrev N__law_draw : List Str := ["_law_pen_here", "_law_many", "_law_digit", "_law_script", "_law_at", "_law_cell", "_law_prime", "_law_number"]
theorem sc__law_draw : FnScope N__law_draw ["_law_pen_here", "_law_many"] (defScope s__law_draw) := ⟨rfl, rfl, rfl, by decide +kernel, rfl, by decide +kernel, by decide +kernel⟩
abbrev s__law_small : Stmt := top 48
abbrev N__law_small : List Str := ["_law_pen_here", "_law_asks", "_law_most", "_law_many", "_law_answers", "_law_found", "_law_room", "_law_ask"]
theorem sc__law_small : FnScope N__law_small ["_law_pen_here", "_law_asks", "_law_most"] (defScope s__law_small) := ⟨rfl, rfl, rfl, by decide +kernel, rfl, by decide +kernel, by decide +kernel⟩
abbrev s__law_begun : Stmt := top 49
abbrev N__law_begun : List Str := ["_law_sheet_here", "_law_found", "_law_row", "_law_answers", "_law_size"]
theorem sc__law_begun : FnScope N__law_begun ["_law_sheet_here"] (defScope s__law_begun) := ⟨rfl, rfl, rfl, by decide +kernel, rfl, by decide +kernel, by decide +kernel⟩
abbrev s__law_told_row : Stmt := top 50
abbrev N__law_told_row : List Str := ["_law_pen_here", "_law_rooms", "_law_row", "_law_share", "_law_room", "_law_answers", "_law_ask", "_law_answer"]
theorem sc__law_told_row : FnScope N__law_told_row ["_law_pen_here", "_law_rooms", "_law_row", "_law_share"] (defScope s__law_told_row) := ⟨rfl, rfl, rfl, by decide +kernel, rfl, by decide +kernel, by decide +kernel⟩
abbrev s__law_sheet : Stmt := top 51
abbrev N__law_sheet : List Str := ["_law_pen_here", "_law_rooms", "_law_many", "_law_most", "_law_share", "_law_wide", "_law_asks", "_law_sheet_here", "_law_turn", "_law_row", "_law_elder", "_law_k", "_law_more"]
theorem sc__law_sheet : FnScope N__law_sheet ["_law_pen_here", "_law_rooms", "_law_many", "_law_most"] (defScope s__law_sheet) := ⟨rfl, rfl, rfl, by decide +kernel, rfl, by decide +kernel, by decide +kernel⟩
abbrev s__law_words : Stmt := top 52
abbrev N__law_words : List Str := ["_law_caught", "_law_flags", "_law_word", "_law_flag"]
theorem sc__law_words : FnScope N__law_words ["_law_caught"] (defScope s__law_words) := ⟨rfl, rfl, rfl, by decide +kernel, rfl, by decide +kernel, by decide +kernel⟩
abbrev s__law_due : Stmt := top 53
abbrev N__law_due : List Str := ["_law_sheet_here", "_law_number", "_law_told_row_here", "_law_row", "_law_answers", "_law_place", "_law_here", "_law_ahead", "_law_other", "_law_some", "_law_answer"]
theorem sc__law_due : FnScope N__law_due ["_law_sheet_here"] (defScope s__law_due) := ⟨rfl, rfl, rfl, by decide +kernel, rfl, by decide +kernel, by decide +kernel⟩
abbrev s__law_heard : Stmt := top 54
abbrev N__law_heard : List Str := ["_law_which", "_law_asks", "_law_sheet_here", "_law_caught", "e", "_law_fields", "_law_one"]
theorem sc__law_heard : FnScope N__law_heard ["_law_which", "_law_asks", "_law_sheet_here"] (defScope s__law_heard) := ⟨rfl, rfl, rfl, by decide +kernel, rfl, by decide +kernel, by decide +kernel⟩
abbrev s__law_bent : Stmt := top 55
abbrev N__law_bent : List Str := ["_law_sheet_here", "_law_spots", "_law_many", "_law_row", "_law_answers", "_law_place", "_law_answer", "_law_spot", "_law_begin"]
theorem sc__law_bent : FnScope N__law_bent ["_law_sheet_here", "_law_spots", "_law_many"] (defScope s__law_bent) := ⟨rfl, rfl, rfl, by decide +kernel, rfl, by decide +kernel, by decide +kernel⟩
abbrev s__law_made_right : Stmt := top 56
abbrev N__law_made_right : List Str := ["_law_one", "_law_other", "_law_caught"]
theorem sc__law_made_right : FnScope N__law_made_right ["_law_one", "_law_other"] (defScope s__law_made_right) := ⟨rfl, rfl, rfl, by decide +kernel, rfl, by decide +kernel, by decide +kernel⟩
abbrev s_law : Stmt := top 57
abbrev N_law : List Str := ["_law_script", "_law_pen_here", "_law_turn", "_law_way", "_law_spots", "_law_wide", "_law_bends", "_law_many", "_law_rooms", "_law_sheet_here", "_law_asks", "_law_kept", "_law_due_here", "_law_again"]
theorem sc_law : FnScope N_law ["_law_script"] (defScope s_law) := ⟨rfl, rfl, rfl, by decide +kernel, rfl, by decide +kernel, by decide +kernel⟩
def inner (st : Stmt) (i : Nat) : Stmt := match st with | .ClassDef _ _ _ body _ _ _ _ _ _ _ => body.getD i (.Pass ⟨0, 0, 0, 0⟩) | s => s
abbrev s_Clash__init__ : Stmt := inner (top 7) 0
theorem sc_Clash__init__ : FnScope ["self", "row", "place"] ["self", "row", "place"] (defScope s_Clash__init__) := ⟨rfl, rfl, rfl, by decide +kernel, rfl, by decide +kernel, by decide +kernel⟩
/-- the built-in names that the text has not taken -/
structure Tx (mg : Str → Option Value) : Prop where
  b_ValueError : mg "ValueError" = none
  b_len : mg "len" = none
  b_tuple : mg "tuple" = none
  b_list : mg "list" = none
  b_enumerate : mg "enumerate" = none
  b_range : mg "range" = none
  b_isinstance : mg "isinstance" = none
  b_any : mg "any" = none
  b_sorted : mg "sorted" = none
  b_min : mg "min" = none
  b_dict : mg "dict" = none
  b_repr : mg "repr" = none
  b_set : mg "set" = none
  b_int : mg "int" = none
  b_abs : mg "abs" = none
  b_bool : mg "bool" = none
  c_MOST_TRIES : ∃ t, mg "MOST_TRIES" = some (.int 300 t)
  c_MOST_ROOMS : ∃ t, mg "MOST_ROOMS" = some (.int 24 t)
structure Cs where
  CellError : Addr
  Clash : Addr
  TooMany : Addr
  NotClosed : Addr
  Unlike : Addr
  NotFull : Addr
  Unreached : Addr
  NoWords : Addr
  NotOpen : Addr
  NoBack : Addr
  NoText : Addr
  NoName : Addr
  NoLine : Addr
/-- the classes of refusals -/
structure Tc (K : PySem.W.Frag) (mg : Str → Option Value) (c : Cs) : Prop where
  g_CellError : mg "CellError" = some (.ref c.CellError)
  g_Clash : mg "Clash" = some (.ref c.Clash)
  g_TooMany : mg "TooMany" = some (.ref c.TooMany)
  g_NotClosed : mg "NotClosed" = some (.ref c.NotClosed)
  g_Unlike : mg "Unlike" = some (.ref c.Unlike)
  g_NotFull : mg "NotFull" = some (.ref c.NotFull)
  g_Unreached : mg "Unreached" = some (.ref c.Unreached)
  g_NoWords : mg "NoWords" = some (.ref c.NoWords)
  g_NotOpen : mg "NotOpen" = some (.ref c.NotOpen)
  g_NoBack : mg "NoBack" = some (.ref c.NoBack)
  g_NoText : mg "NoText" = some (.ref c.NoText)
  g_NoName : mg "NoName" = some (.ref c.NoName)
  g_NoLine : mg "NoLine" = some (.ref c.NoLine)
  k_TooMany : PySem.W.keepIn K (.ref c.TooMany) = true
  s_TooMany : PySem.W.subIn K (.ref c.TooMany) (.type "BaseException") = some true
  t_TooMany : PySem.W.typeIn K (.ref c.TooMany) = some (.type "type")
  x_TooMany : PySem.W.excIn K c.TooMany [.type "ValueError", .type "Exception", .type "BaseException", .type "object"] "ValueError.__new__" = true
  ea_TooMany : PySem.W.findIn K (.ref c.TooMany) "__getattribute__" = some (some (.builtin "BaseException.__getattribute__"))
  eb_TooMany : PySem.W.findIn K (.ref c.TooMany) "__getattr__" = some none
  ec_TooMany : PySem.W.hasDictIn K c.TooMany = true
  ed_TooMany : PySem.W.findIn K (.ref c.TooMany) "__class__" = some (some (.builtin "object.__class__"))
  ee_TooMany : PySem.W.mroIn K c.TooMany (.type "object") = some true
  iv_TooMany : PySem.W.kitOne K (.ref c.TooMany) (.type "ValueError") = some true
  i_TooMany_CellError : PySem.W.kitOne K (.ref c.TooMany) (.ref c.CellError) = some true
  i_TooMany_Clash : PySem.W.kitOne K (.ref c.TooMany) (.ref c.Clash) = some false
  i_TooMany_TooMany : PySem.W.kitOne K (.ref c.TooMany) (.ref c.TooMany) = some true
  i_TooMany_NotClosed : PySem.W.kitOne K (.ref c.TooMany) (.ref c.NotClosed) = some false
  i_TooMany_Unlike : PySem.W.kitOne K (.ref c.TooMany) (.ref c.Unlike) = some false
  i_TooMany_NotFull : PySem.W.kitOne K (.ref c.TooMany) (.ref c.NotFull) = some false
  i_TooMany_Unreached : PySem.W.kitOne K (.ref c.TooMany) (.ref c.Unreached) = some false
  i_TooMany_NoWords : PySem.W.kitOne K (.ref c.TooMany) (.ref c.NoWords) = some false
  i_TooMany_NotOpen : PySem.W.kitOne K (.ref c.TooMany) (.ref c.NotOpen) = some false
  i_TooMany_NoBack : PySem.W.kitOne K (.ref c.TooMany) (.ref c.NoBack) = some false
  i_TooMany_NoText : PySem.W.kitOne K (.ref c.TooMany) (.ref c.NoText) = some false
  i_TooMany_NoName : PySem.W.kitOne K (.ref c.TooMany) (.ref c.NoName) = some false
  i_TooMany_NoLine : PySem.W.kitOne K (.ref c.TooMany) (.ref c.NoLine) = some false
  m_TooMany_CellError : PySem.W.exmOne K (.ref c.TooMany) (.ref c.CellError) = some true
  k_Clash : PySem.W.keepIn K (.ref c.Clash) = true
  s_Clash : PySem.W.subIn K (.ref c.Clash) (.type "BaseException") = some true
  t_Clash : PySem.W.typeIn K (.ref c.Clash) = some (.type "type")
  ea_Clash : PySem.W.findIn K (.ref c.Clash) "__getattribute__" = some (some (.builtin "BaseException.__getattribute__"))
  eb_Clash : PySem.W.findIn K (.ref c.Clash) "__getattr__" = some none
  ec_Clash : PySem.W.hasDictIn K c.Clash = true
  ed_Clash : PySem.W.findIn K (.ref c.Clash) "__class__" = some (some (.builtin "object.__class__"))
  ee_Clash : PySem.W.mroIn K c.Clash (.type "object") = some true
  iv_Clash : PySem.W.kitOne K (.ref c.Clash) (.type "ValueError") = some true
  i_Clash_CellError : PySem.W.kitOne K (.ref c.Clash) (.ref c.CellError) = some true
  i_Clash_Clash : PySem.W.kitOne K (.ref c.Clash) (.ref c.Clash) = some true
  i_Clash_TooMany : PySem.W.kitOne K (.ref c.Clash) (.ref c.TooMany) = some false
  i_Clash_NotClosed : PySem.W.kitOne K (.ref c.Clash) (.ref c.NotClosed) = some false
  i_Clash_Unlike : PySem.W.kitOne K (.ref c.Clash) (.ref c.Unlike) = some false
  i_Clash_NotFull : PySem.W.kitOne K (.ref c.Clash) (.ref c.NotFull) = some false
  i_Clash_Unreached : PySem.W.kitOne K (.ref c.Clash) (.ref c.Unreached) = some false
  i_Clash_NoWords : PySem.W.kitOne K (.ref c.Clash) (.ref c.NoWords) = some false
  i_Clash_NotOpen : PySem.W.kitOne K (.ref c.Clash) (.ref c.NotOpen) = some false
  i_Clash_NoBack : PySem.W.kitOne K (.ref c.Clash) (.ref c.NoBack) = some false
  i_Clash_NoText : PySem.W.kitOne K (.ref c.Clash) (.ref c.NoText) = some false
  i_Clash_NoName : PySem.W.kitOne K (.ref c.Clash) (.ref c.NoName) = some false
  i_Clash_NoLine : PySem.W.kitOne K (.ref c.Clash) (.ref c.NoLine) = some false
  m_Clash_CellError : PySem.W.exmOne K (.ref c.Clash) (.ref c.CellError) = some true
  oc_Clash : OexC K c.Clash
  oi_Clash : ∃ (f : Addr) (fd : FuncData), PySem.W.findIn K (.ref c.Clash) "__init__" = some (some (.ref f)) ∧ PySem.W.typeIn K (.ref f) = some (.type "function") ∧ Fun K "__init__" "Clash.__init__" s_Clash__init__ f fd
  of_Clash_row : PySem.W.findIn K (.ref c.Clash) "row" = some none
  of_Clash_place : PySem.W.findIn K (.ref c.Clash) "place" = some none
  ve_CellError : VeC K c.CellError
  en : PySem.W.specialIn K (.builtin "object.__class__") "__get__" = some (some (.builtin "getset_descriptor.__get__"))
  et : PySem.W.takesIn K (.builtin "object.__class__") = some true
theorem tc_f_Clash {K : PySem.W.Frag} {mg : Str → Option Value} {c : Cs} (TC : Tc K mg c) : XfC K c.Clash := ⟨TC.ea_Clash, TC.eb_Clash, TC.s_Clash, TC.ec_Clash⟩
theorem tc_e_TooMany {K : PySem.W.Frag} {mg : Str → Option Value} {c : Cs} (TC : Tc K mg c) : ExcC K c.TooMany := ⟨TC.ea_TooMany, TC.eb_TooMany, TC.s_TooMany, TC.ec_TooMany, TC.ed_TooMany, TC.en, TC.et, TC.ee_TooMany⟩
theorem tc_e_Clash {K : PySem.W.Frag} {mg : Str → Option Value} {c : Cs} (TC : Tc K mg c) : ExcC K c.Clash := ⟨TC.ea_Clash, TC.eb_Clash, TC.s_Clash, TC.ec_Clash, TC.ed_Clash, TC.en, TC.et, TC.ee_Clash⟩
theorem init_Clash {P : Program} {w : World} {K : PySem.W.Frag} {mg : Str → Option Value} {base : Heap} {cs : Cs} (TC : Tc K mg cs) : InitO P w K mg base cs.Clash 1 ["row", "place"] := by
  obtain ⟨fI, fd, iC, tI, F⟩ := TC.oi_Clash
  refine ⟨by decide, fI, fd, fun vs H Q E => ∃ (a : Addr) (y0 y1 : V), vs = [.ref a, y0, y1] ∧ H a = some (exo a cs.Clash none) ∧ ∀ (d : Addr) (H2 : Hp), H d = none → d ≠ a → H2 a = some (exo a cs.Clash (some d)) → H2 d = some (exd d [("place", y1), ("row", y0)]) → (∀ b, b ≠ a → b ≠ d → H2 b = H b) → Q .non H2, ["self", "row", "place"], TC.oc_Clash, iC, tI, F.ok sc_Clash__init__ (fun vs H Q E h => by obtain ⟨a, y0, y1, rfl, _⟩ := h; rfl) ?_, F.binds (fun _ _ _ _ _ _ us hl => match us, hl with | [_, _, _], _ => rfl), ?_⟩
  · intro cdv A outer s H vs Q E hr h
    obtain ⟨a, y0, y1, rfl, ha, k⟩ := h
    refine ⟨_, pss_cons (ps_expr (pe_veinitC TC.ve_CellError rfl TC.g_CellError (by decide) (pa_cons (pe_var (i := 0) rfl (.inl rfl)) (pa_cons pe_str pa_nil)))) (pss_cons (ps_ost (pe_var (i := 0) rfl (.inl rfl)) (pe_var (i := 1) rfl (.inl rfl))) (pss_cons (ps_ost (pe_var (i := 0) rfl (.inl rfl)) (pe_var (i := 2) rfl (.inl rfl))) pss_nil)), ?_⟩
    refine ⟨.ref a, rfl, ?_⟩
    refine ⟨a, cs.Clash, _, rfl, by simp, TC.oc_Clash, ha, ?_⟩
    refine ⟨y0, rfl, .ref a, rfl, a, cs.Clash, rfl, TC.oc_Clash, TC.of_Clash_row, ?_⟩
    refine .inl ⟨ha, fun dx hd hda => ?_⟩
    refine ⟨y1, rfl, .ref a, rfl, a, cs.Clash, rfl, TC.oc_Clash, TC.of_Clash_place, ?_⟩
    refine .inr ⟨dx, _, by first | exact upd_same | (rw [upd_ne (Ne.symm hda)]; exact upd_same), by first | exact upd_same | (rw [upd_ne hda]; exact upd_same), by simp, ?_⟩
    exact k dx _ hd hda (by rw [upd_ne (Ne.symm hda)]; exact upd_same) upd_same fun b h1 h2 => by rw [upd_ne h2, upd_ne h1, upd_ne h2]
  · intro vs H a Q E hl ha k
    match vs, hl with
    | [y0, y1], _ => exact ⟨a, y0, y1, rfl, ha, k⟩
section
variable {P : Program} {w : World} {K : PySem.W.Frag} {mg : Str → Option Value} {base : Heap}
def S_pen : FS := fun ds μ Φ => ∃ ns : List Int, ds = [.scr (ns.map D.int)] ∧ ∀ p, Φ (.ptr p) ((p, penO ns 0) :: μ)
theorem ok_pen (B : Src K mg "_law_pen" s__law_pen ["_law_script"]) (T : Tx mg) : KnG P w K mg base 1 "_law_pen" ["_law_script"] S_pen := by
  refine kn_ofG B sc__law_pen (fun ds μ Φ h => by obtain ⟨_, rfl, _⟩ := h; rfl) fun f cdv A outer s H E grd hr ds μ Φ h => ?_
  obtain ⟨ns, rfl, k⟩ := h
  refine wSs_rho (ρ' := [_]) rfl ?_
  -- return [_law_script, 0, 0]
  refine w_cons (w_ret (w_close ?_))
  refine w_lstM ?_
  refine wa_cons ?_
  refine w_name 0 rfl (.inl rfl) rfl ?_
  refine wa_cons ?_
  refine w_int ?_
  refine wa_cons ?_
  refine w_int ?_
  refine wa_nil ?_
  refine ⟨by simp, fun p => ?_⟩
  exact ⟨0, p, _, penP ns 0, rfl, ⟨0, 0, rfl, by decide, by decide, by decide⟩, k p⟩
theorem ok_draw (B : Src K mg "_law_draw" s__law_draw ["_law_pen_here", "_law_many"]) (T : Tx mg) : KnG P w K mg base 1 "_law_draw" ["_law_pen_here", "_law_many"] S_draw := by
  refine kn_ofG B sc__law_draw (fun ds μ Φ h => by obtain ⟨_, _, _, _, _, rfl, _⟩ := h; rfl) fun f cdv A outer s H E grd hr ds μ Φ h => ?_
  obtain ⟨ns, n, q, i, many, rfl, hm0, hn, hmany, k0⟩ := h
  refine wSs_open hm0 fun xs hxs => ?_
  obtain ⟨a, l, rfl, ha0, han, hl0⟩ := hxs
  have hm := get_set (y := (q, MO.lst (penL3 ns a l))) hm0
  have k : ∀ (r : Int) (a' l' : Int) (μ1 : Mu), 0 ≤ r → r < many → 0 ≤ a' → a' ≤ n + 1 → 0 ≤ l' → μ1 = μ.set i (q, MO.lst (penL3 ns a' l')) → ∃ (i' : Nat) (q' : Addr) (ds : List D) (P : List D → Prop), μ1[i']? = some (q', .lst ds) ∧ P ds ∧ Φ (.int r) (μ1.set i' (q', .la P)) := fun r a' l' μ1 h0 h1 h2 h3 h4 e => by
    subst e
    refine ⟨i, q, _, penP ns (n + 1), get_set hm0, ⟨a', l', rfl, h2, by omega, h4⟩, ?_⟩
    have := k0 r.toNat _ (by omega) rfl
    rwa [Int.toNat_of_nonneg h0, ← List.set_set (a := (q, MO.lst (penL3 ns a' l')))] at this
  refine wSs_rho (ρ' := [_, _, _, _, _, _, _, _]) rfl ?_
  -- if _law_pen_here[2] > 0:
  refine w_cons (w_if ?_)
  refine wt_cmp ?_
  refine w_ix ?_
  refine w_name 0 rfl (.inl rfl) rfl ?_
  refine w_int ?_
  refine ix_ptrD i hm 2 rfl rfl ?_
  refine w_int ?_
  walk_at "Gt"
  refine ⟨_, rfl, ?_⟩
  refine ⟨fun hb => ?_, fun hb => ?_⟩
  · -- _law_digit = _law_pen_here[2] % _law_many
    refine w_cons (w_set 2 sc__law_draw.nd rfl (.inl rfl) (.inl rfl) ?_)
    refine w_bin ?_
    refine w_ix ?_
    refine w_name 0 rfl (.inl rfl) rfl ?_
    refine w_int ?_
    refine ix_ptrD i hm 2 rfl rfl ?_
    refine w_name 1 rfl (.inl rfl) rfl ?_
    walk_at "Mod"
    -- _law_pen_here[2] = _law_pen_here[2] // _law_many
    refine w_cons (w_lset ?_)
    refine w_bin ?_
    refine w_ix ?_
    refine w_name 0 rfl (.inl rfl) rfl ?_
    refine w_int ?_
    refine ix_ptrD i hm 2 rfl rfl ?_
    refine w_name 1 rfl (.inl rfl) rfl ?_
    walk_at "FloorDiv"
    refine w_name 0 rfl (.inl rfl) rfl ?_
    refine w_int ?_
    refine ⟨_, i, _, 2, rfl, rfl, hm, (by show 2 < 3; decide), ?_⟩
    rw [penL3_2, List.set_set]
    -- return _law_digit
    refine w_cons (w_ret (w_close ?_))
    refine w_name 2 rfl (.inl rfl) rfl ?_
    exact k _ a (l / many) _ (Int.emod_nonneg _ (by omega)) (Int.emod_lt_of_pos _ (by omega)) (by omega) (by omega) (Int.ediv_nonneg hl0 (by omega)) rfl
  refine w_nil ?_
  -- _law_script, _law_at = _law_pen_here[:2]
  refine w_cons (w_asg ?_)
  refine w_fz0 ?_
  refine w_sl ?_
  refine w_name 0 rfl (.inl rfl) rfl ?_
  refine wo_none ?_
  refine wo_some ?_
  refine w_int ?_
  refine ⟨_, rfl, ?_⟩
  refine sd_ptr i hm fun ps => ?_
  have esl : cutD (penL3 ns a l) none (some 2) = [.scr (ns.map D.int), .int a] := rfl
  rw [esl]
  refine ⟨_, _, _, rfl, rfl, ?_⟩
  first | refine wg_tup rfl rfl ?_ | refine wg_lst rfl rfl ?_
  refine wgs_cons ?_
  refine wg_name 3 sc__law_draw.nd rfl (.inl rfl) (.inl rfl) ?_
  refine wgs_cons ?_
  refine wg_name 4 sc__law_draw.nd rfl (.inl rfl) (.inl rfl) ?_
  refine wgs_nil ?_
  -- _law_pen_here[1] = _law_at + 1
  refine w_cons (w_lset ?_)
  refine w_bin ?_
  refine w_name 4 rfl (.inl rfl) rfl ?_
  refine w_int ?_
  first | refine o_addN (b := 1) ?_ | walk_at "Add"
  refine w_name 0 rfl (.inl rfl) rfl ?_
  refine w_int ?_
  refine ⟨_, i, _, 1, rfl, rfl, hm, (by show 1 < 3; decide), ?_⟩
  rw [penL3_1, List.set_set]
  have hm2 := get_set (y := (q, MO.lst (penL3 ns (a + 1) l))) hm0
  -- _law_cell = 1237 * _law_at + 41
  refine w_cons (w_set 5 sc__law_draw.nd rfl (.inl rfl) (.inl rfl) ?_)
  refine w_bin ?_
  refine w_bin ?_
  refine w_int ?_
  refine w_name 4 rfl (.inl rfl) rfl ?_
  first | refine o_mulN (a := 1237) (by omega) ?_ | walk_at "Mult"
  refine w_int ?_
  first | refine o_addN (b := 41) ?_ | walk_at "Add"
  -- if len(_law_script) > 0:
  refine w_cutV [5] (fun vs μ' => ∃ (c : Int), vs = [some (.int c)] ∧ μ.set i (q, MO.lst (penL3 ns (a + 1) l)) = μ') (w_if ?_) ?_
  · refine wt_cmp ?_
    refine w_callB (id := "len") T.b_len ?_
    refine wa_cons ?_
    refine w_name 3 rfl (.inl rfl) rfl ?_
    refine wa_nil ?_
    walk_at "c_len"
    rw [List.length_map]
    refine w_int ?_
    walk_at "Gt"
    refine ⟨_, rfl, ?_⟩
    refine ⟨fun hb => ?_, fun hb => ?_⟩
    · -- _law_cell = _law_script[_law_at % len(_law_script)]
      refine w_cons (w_set 5 sc__law_draw.nd rfl (.inl rfl) (.inl rfl) ?_)
      refine w_ix ?_
      refine w_name 3 rfl (.inl rfl) rfl ?_
      refine w_bin ?_
      refine w_name 4 rfl (.inl rfl) rfl ?_
      refine w_callB (id := "len") T.b_len ?_
      refine wa_cons ?_
      refine w_name 3 rfl (.inl rfl) rfl ?_
      refine wa_nil ?_
      walk_at "c_len"
      rw [List.length_map]
      refine o_mod (by have := of_decide_eq_true hb; omega) ?_
      have hpos : 0 < ns.length := by have := of_decide_eq_true hb; omega
      have hr0 : 0 ≤ a % (ns.length : Int) := Int.emod_nonneg _ (by omega)
      have hr1 : a % (ns.length : Int) < ns.length := Int.emod_lt_of_pos _ (by omega)
      have hlt : (a % (ns.length : Int)).toNat < ns.length := by omega
      refine ix_scrD (a % (ns.length : Int)).toNat (Int.toNat_of_nonneg hr0).symm (by rw [List.getElem?_map, List.getElem?_eq_getElem hlt]; rfl) ?_
      generalize ns[(a % (ns.length : Int)).toNat] = c
      have habs := absN c
      -- if _law_at < len(_law_script) and abs(_law_cell) >= 10 ** 18:
      refine w_cons (w_if ?_)
      refine wt_b ((decide (a < (ns.length : Int)) && decide ((if c < 0 then -c else c) ≥ (10 : Int) ^ (18 : Int).toNat))) ?_ ?_
      · refine wt_w ?_
        refine ww_and ?_
        refine wt_cmp ?_
        refine w_name 4 rfl (.inl rfl) rfl ?_
        refine w_callB (id := "len") T.b_len ?_
        refine wa_cons ?_
        refine w_name 3 rfl (.inl rfl) rfl ?_
        refine wa_nil ?_
        walk_at "c_len"
        rw [List.length_map]
        walk_at "Lt"
        refine ⟨_, rfl, ?_⟩
        refine ⟨fun hb0 => ?_, fun hb0 => ⟨(by rw [hb0]; rfl), rfl⟩⟩
        refine ww_and1 ?_
        refine wt_cmp ?_
        refine w_callB (id := "abs") T.b_abs ?_
        refine wa_cons ?_
        refine w_name 5 rfl (.inl rfl) rfl ?_
        refine wa_nil ?_
        walk_at "c_abs"
        refine w_bin ?_
        refine w_int ?_
        refine w_int ?_
        walk_at "Pow"
        walk_at "GtE"
        refine ⟨_, rfl, ?_⟩
        exact ⟨(by rw [hb0]; rfl), rfl⟩
      refine ⟨fun hb => ?_, fun hb => ?_⟩
      · -- _law_pen_here[2] = abs(_law_cell) // _law_many
        refine w_cons (w_lset ?_)
        refine w_bin ?_
        refine w_callB (id := "abs") T.b_abs ?_
        refine wa_cons ?_
        refine w_name 5 rfl (.inl rfl) rfl ?_
        refine wa_nil ?_
        walk_at "c_abs"
        refine w_name 1 rfl (.inl rfl) rfl ?_
        walk_at "FloorDiv"
        refine w_name 0 rfl (.inl rfl) rfl ?_
        refine w_int ?_
        refine ⟨_, i, _, 2, rfl, rfl, hm2, (by show 2 < 3; decide), ?_⟩
        rw [penL3_2, List.set_set]
        -- return abs(_law_cell) % _law_many
        refine w_cons (w_ret (w_close ?_))
        refine w_bin ?_
        refine w_callB (id := "abs") T.b_abs ?_
        refine wa_cons ?_
        refine w_name 5 rfl (.inl rfl) rfl ?_
        refine wa_nil ?_
        walk_at "c_abs"
        refine w_name 1 rfl (.inl rfl) rfl ?_
        walk_at "Mod"
        exact k _ (a + 1) ((if c < 0 then -c else c) / many) _ (Int.emod_nonneg _ (by omega)) (Int.emod_lt_of_pos _ (by omega)) (by omega) (by omega) (Int.ediv_nonneg habs (by omega)) (by first | rfl | rw [List.set_set])
      refine w_nil ?_
      refine w_nil ?_
      exact ⟨[_], rfl, ⟨c, rfl, rfl⟩⟩
    · refine w_nil ?_
      exact ⟨[_], rfl, ⟨_, rfl, rfl⟩⟩
  rintro vs μ' ⟨c, rfl, rfl⟩
  refine wSs_rho (ρ' := [_, _, _, _, _, _, _, _]) rfl ?_
  -- _law_prime = [2147483647, 2147483543, 2147483587, 2147483549, 2147483629][_law_at % 5]
  refine w_cons (w_set 6 sc__law_draw.nd rfl (.inl rfl) (.inl rfl) ?_)
  refine w_ix ?_
  refine w_lst ?_
  refine wa_cons ?_
  refine w_int ?_
  refine wa_cons ?_
  refine w_int ?_
  refine wa_cons ?_
  refine w_int ?_
  refine wa_cons ?_
  refine w_int ?_
  refine wa_cons ?_
  refine w_int ?_
  refine wa_nil ?_
  refine ⟨by simp, ?_⟩
  refine w_bin ?_
  refine w_name 4 rfl (.inl rfl) rfl ?_
  refine w_int ?_
  walk_at "Mod"
  first | refine ix_litN [2147483647, 2147483543, 2147483587, 2147483549, 2147483629] (by show (_ : Nat) < 5; omega) fun x1 hx1 => ?_ | refine ix_lit [2147483647, 2147483543, 2147483587, 2147483549, 2147483629] (by omega) (by show (_ : Int) < 5; omega) fun x1 hx1 => ?_
  have hb1 : 2147483543 ≤ x1 ∧ x1 ≤ 2147483647 := by simp at hx1; omega
  -- _law_number = (_law_cell % _law_prime + 46021 * _law_at + 41) ** 3 % _law_prime
  refine w_cons (w_set 7 sc__law_draw.nd rfl (.inl rfl) (.inl rfl) ?_)
  refine w_bin ?_
  refine w_bin ?_
  refine w_bin ?_
  refine w_bin ?_
  refine w_bin ?_
  refine w_name 5 rfl (.inl rfl) rfl ?_
  refine w_name 6 rfl (.inl rfl) rfl ?_
  walk_at "Mod"
  refine w_bin ?_
  refine w_int ?_
  refine w_name 4 rfl (.inl rfl) rfl ?_
  first | refine o_mulN (a := 46021) (by omega) ?_ | walk_at "Mult"
  first | refine o_addN ?_ | walk_at "Add"
  refine w_int ?_
  first | refine o_addN (b := 41) ?_ | walk_at "Add"
  refine w_int ?_
  refine o_pow ⟨by decide, by decide, by have := Int.emod_nonneg c (show x1 ≠ 0 by omega); have := Int.emod_lt_of_pos c (show 0 < x1 by omega); omega⟩ ?_
  refine w_name 6 rfl (.inl rfl) rfl ?_
  walk_at "Mod"
  have hy0 := Int.emod_nonneg ((c % x1 + 46021 * a + 41) ^ (3 : Int).toNat) (show x1 ≠ 0 by omega)
  have hy1 := Int.emod_lt_of_pos ((c % x1 + 46021 * a + 41) ^ (3 : Int).toNat) (show 0 < x1 by omega)
  generalize (c % x1 + 46021 * a + 41) ^ (3 : Int).toNat % x1 = y at hy0 hy1
  have hbd := mulBnd (a := a + 59) hy0 (by omega) (by omega) (by omega)
  -- _law_number = (_law_number * (_law_at + 59) + 1237) ** 3 % 2147483497
  refine w_cons (w_set 7 sc__law_draw.nd rfl (.inl rfl) (.inl rfl) ?_)
  refine w_bin ?_
  refine w_bin ?_
  refine w_bin ?_
  refine w_bin ?_
  refine w_name 7 rfl (.inl rfl) rfl ?_
  refine w_bin ?_
  refine w_name 4 rfl (.inl rfl) rfl ?_
  refine w_int ?_
  first | refine o_addN (b := 59) ?_ | walk_at "Add"
  first | refine o_mulN (by omega) ?_ | walk_at "Mult"
  refine w_int ?_
  first | refine o_addN (b := 1237) ?_ | walk_at "Add"
  refine w_int ?_
  refine o_pow ⟨by decide, by decide, by omega⟩ ?_
  refine w_int ?_
  walk_at "Mod"
  -- return _law_number // 64 % _law_many
  refine w_cons (w_ret (w_close ?_))
  refine w_bin ?_
  refine w_bin ?_
  refine w_name 7 rfl (.inl rfl) rfl ?_
  refine w_int ?_
  walk_at "FloorDiv"
  refine w_name 1 rfl (.inl rfl) rfl ?_
  walk_at "Mod"
  exact k _ (a + 1) l _ (Int.emod_nonneg _ (by omega)) (Int.emod_lt_of_pos _ (by omega)) (by omega) (by omega) hl0 rfl
end
/-! ### machines: plain facts -/
abbrev Cell := Option Nat × Option Nat
def optD : Option Nat → D
  | none => .non
  | some n => .int n
def cellD (c : Cell) : D := .tup [optD c.1, optD c.2]
def roomD (r : List Cell) : D := .tup (r.map cellD)
structure Mach where
  asks : Nat
  rooms : List (List Cell)
def machD (m : Mach) : D := .tup [.int m.asks, .tup (m.rooms.map roomD)]
/-- a cell's parts within the bounds -/
def cOk (many kinds : Nat) (c : Cell) : Prop := (∀ g, c.1 = some g → g < many) ∧ ∀ s, c.2 = some s → s < kinds
structure Mach.Ok (m : Mach) (most : Nat) : Prop where
  a0 : 0 < m.asks
  a4 : m.asks ≤ 4
  r0 : 0 < m.rooms.length
  rm : m.rooms.length ≤ most
  ok : ∀ r ∈ m.rooms, r.length = m.asks ∧ ∀ c ∈ r, cOk m.rooms.length 8 c
/-! ### rows gone: plain facts -/
def Mach.cell (m : Mach) (r a : Nat) : Cell := (m.rooms.getD r []).getD a (none, none)
def stepM (m : Mach) (s : List (Option Nat) × Option Nat) (a : Nat) : List (Option Nat) × Option Nat := match s.2 with
  | none => s
  | some r => (s.1 ++ [(m.cell r a).2], (m.cell r a).1)
/-- a row gone: the answers, the room at the end -/
def runM (m : Mach) (h : Option Nat) (row : List Nat) : List (Option Nat) × Option Nat := row.foldl (stepM m) ([], h)
abbrev rowD (row : List Nat) : D := .tup (row.map fun a : Nat => .int a)
theorem runM_snoc (m : Mach) (h : Option Nat) (l : List Nat) (a : Nat) : runM m h (l ++ [a]) = stepM m (runM m h l) a := by unfold runM; rw [List.foldl_append]; rfl
theorem take_next {α : Type} {l : List α} {i : Nat} {x : α} (h : l[i]? = some x) : l.take (i + 1) = l.take i ++ [x] := by rw [List.take_add_one, h]; rfl
theorem map_get {α β : Type} {f : α → β} {l : List α} {i : Nat} {y : β} (h : (l.map f)[i]? = some y) : ∃ x, l[i]? = some x ∧ f x = y := by
  rw [List.getElem?_map] at h
  exact Option.map_eq_some_iff.mp h
theorem fold_none (m : Mach) : ∀ (l : List Nat) (s : List (Option Nat) × Option Nat), s.2 = none → l.foldl (stepM m) s = s
  | [], _, _ => rfl
  | a :: l, s, h => by
    have e : stepM m s a = s := by unfold stepM; rw [h]
    rw [List.foldl_cons, e, fold_none m l s h]
theorem runM_none {m : Mach} {h : Option Nat} {row : List Nat} (i : Nat) (e : (runM m h (row.take i)).2 = none) : runM m h row = runM m h (row.take i) := by
  have e2 : runM m h row = (row.drop i).foldl (stepM m) (runM m h (row.take i)) := by unfold runM; rw [← List.foldl_append, List.take_append_drop]
  rw [e2, fold_none m _ _ e]
theorem runM_le (m : Mach) (h : Option Nat) (l : List Nat) : (runM m h l).1.length ≤ l.length := by
  have H : ∀ (l : List Nat) (s : List (Option Nat) × Option Nat), (l.foldl (stepM m) s).1.length ≤ s.1.length + l.length := by
    intro l
    induction l with
    | nil => intro s; exact Nat.le_refl _
    | cons a l ih =>
      intro s
      rw [List.foldl_cons]
      have h1 := ih (stepM m s a)
      have h2 : (stepM m s a).1.length ≤ s.1.length + 1 := by
        unfold stepM
        split
        · omega
        · rw [List.length_append]; exact Nat.le_refl _
      rw [List.length_cons]
      omega
  have := H l ([], h)
  simpa [runM] using this
/-- what is at a place of a machine -/
theorem mach_at {m : Mach} {most r a : Nat} (hm : m.Ok most) (hr : r < m.rooms.length) (ha : a < m.asks) : (m.rooms.map roomD)[r]? = some (roomD (m.rooms.getD r [])) ∧ ((m.rooms.getD r []).map cellD)[a]? = some (cellD (m.cell r a)) ∧ cOk m.rooms.length 8 (m.cell r a) := by
  have e1 : m.rooms.getD r [] = m.rooms[r] := by rw [List.getD_eq_getElem?_getD, List.getElem?_eq_getElem hr]; rfl
  obtain ⟨hl, hc⟩ := hm.ok _ (List.getElem_mem hr)
  have ha' : a < (m.rooms.getD r []).length := by rw [e1, hl]; exact ha
  have e2 : m.cell r a = (m.rooms.getD r [])[a] := by unfold Mach.cell; rw [List.getD_eq_getElem?_getD (l := m.rooms.getD r []), List.getElem?_eq_getElem ha']; rfl
  refine ⟨by rw [List.getElem?_map, List.getElem?_eq_getElem hr, e1]; rfl, by rw [List.getElem?_map, List.getElem?_eq_getElem ha', e2]; rfl, ?_⟩
  rw [e2]
  exact hc _ (e1 ▸ List.getElem_mem ha')
def RIn (m : Mach) (h : Option Nat) : Prop := ∀ x, h = some x → x < m.rooms.length
def AIn (m : Mach) (row : List Nat) : Prop := ∀ a ∈ row, a < m.asks
theorem runM_in {m : Mach} {most : Nat} (hm : m.Ok most) : ∀ (row : List Nat) (s : List (Option Nat) × Option Nat), RIn m s.2 → AIn m row → RIn m (row.foldl (stepM m) s).2
  | [], _, h, _ => h
  | a :: l, s, h, ha => by
    rw [List.foldl_cons]
    refine runM_in hm l _ ?_ fun b hb => ha b (List.mem_cons_of_mem _ hb)
    unfold stepM
    split
    · exact h
    · rename_i r e
      exact (mach_at hm (h r e) (ha a List.mem_cons_self)).2.2.1
theorem AIn.take {m : Mach} {row : List Nat} (h : AIn m row) (i : Nat) : AIn m (row.take i) := fun a ha => h a (List.mem_of_mem_take ha)
theorem AIn.drop {m : Mach} {row : List Nat} (h : AIn m row) (i : Nat) : AIn m (row.drop i) := fun a ha => h a (List.mem_of_mem_drop ha)
theorem ly_opt : ∀ o : Option Nat, Ly (optD o) 0
  | none => Ly.non
  | some n => Ly.int n
theorem ly_opts (l : List (Option Nat)) : Ly (.lst (l.map optD)) 1 := Ly.lst (Lys.map fun a _ => ly_opt a)
theorem ly_row (l : List Nat) : Ly (rowD l) 1 := Ly.tup (Lys.map fun a _ => Ly.int a)
theorem eqv_row_nil (l : List Nat) : PyData.eqv (rowD l).py (D.tup []).py = decide (l = []) := by
  cases l with
  | nil => exact eqv_same (ly_row [])
  | cons a l =>
    simp only [rowD, D.py, D.pys, List.map_cons, PyData.eqv, PyData.eqvAll]
    simp
end L37

namespace L37
open PySem PySem.Spec L2 Oc
open Evl (Ex)
local macro_rules | `(tactic| walk_at "s") => `(tactic| first | assumption | omega | decide | (simp only [] at *; omega))
local macro_rules | `(tactic| walk_at "Add") => `(tactic| first | refine o_addN ?_ | refine o_add ?_ | refine o_addS (by walk_at "s") ?_ | refine o_addT (by walk_at "s") ?_ | refine o_addL (by walk_at "s") ?_)
local macro_rules | `(tactic| walk_at "Sub") => `(tactic| refine o_sub ?_)
local macro_rules | `(tactic| walk_at "Mult") => `(tactic| refine o_mul (by walk_at "s") ?_)
local macro_rules | `(tactic| walk_at "Mod") => `(tactic| first | refine o_modN (by walk_at "s") ?_ | refine o_mod (by walk_at "s") ?_)
local macro_rules | `(tactic| walk_at "FloorDiv") => `(tactic| first | refine o_divN (by walk_at "s") ?_ | refine o_div (by walk_at "s") ?_)
local macro_rules | `(tactic| walk_at "Pow") => `(tactic| refine o_pow (by walk_at "s") ?_)
local macro_rules | `(tactic| walk_at "LShift") => `(tactic| refine o_shl (by walk_at "s") ?_)
local macro_rules | `(tactic| walk_at "RShift") => `(tactic| refine o_shr (by walk_at "s") ?_)
local macro_rules | `(tactic| walk_at "BitAnd") => `(tactic| refine o_band ?_)
local macro_rules | `(tactic| walk_at "BitXor") => `(tactic| refine o_bxor ?_)
local macro_rules | `(tactic| walk_at "BitOr") => `(tactic| refine o_bor ?_)
local macro_rules | `(tactic| walk_at "Lt") => `(tactic| refine o_lt ?_)
local macro_rules | `(tactic| walk_at "LtE") => `(tactic| refine o_le ?_)
local macro_rules | `(tactic| walk_at "Gt") => `(tactic| refine o_gt ?_)
local macro_rules | `(tactic| walk_at "GtE") => `(tactic| refine o_ge ?_)
local macro_rules | `(tactic| walk_at "Eq") => `(tactic| refine o_eq (by rfl) ?_)
local macro_rules | `(tactic| walk_at "NotEq") => `(tactic| refine o_ne (by rfl) ?_)
local macro_rules | `(tactic| walk_at "Is") => `(tactic| refine o_isN ?_)
local macro_rules | `(tactic| walk_at "IsNot") => `(tactic| refine o_notN ?_)
local macro_rules | `(tactic| walk_at "In") => `(tactic| refine o_in (by first | exact .inl rfl | exact .inr (.inl rfl) | exact .inr (.inr rfl)) (by rfl) (by rfl) ?_)
local macro_rules | `(tactic| walk_at "NotIn") => `(tactic| refine o_nin (by first | exact .inl rfl | exact .inr (.inl rfl) | exact .inr (.inr rfl)) (by rfl) (by rfl) ?_)
local macro_rules | `(tactic| walk_at "c_abs") => `(tactic| refine c_abs ?_)
local macro_rules | `(tactic| walk_at "c_len") => `(tactic| first | refine c_lenL ?_ | refine c_lenC ?_ | refine c_lenT ?_ | refine c_lenS (by walk_at "s") ?_ | refine c_lenP 0 (by first | assumption | rfl) ?_)
local macro_rules | `(tactic| walk_at "c_str") => `(tactic| refine c_str (by walk_at "s") ?_)
local macro_rules | `(tactic| walk_at "c_isinstance") => `(tactic| refine c_isi rfl (by rfl) ?_)
local macro_rules | `(tactic| walk_at "sl") => `(tactic| first | refine sd_tup ?_ | refine sd_lst ?_)
local macro_rules | `(tactic| walk_at "c_tuple") => `(tactic| first | refine c_tupL ?_ | refine c_tupP 0 (by first | assumption | rfl) ?_ | refine c_tupT ?_)
local macro_rules | `(tactic| walk_at "c_int") => `(tactic| first | refine c_intB ?_)
local macro_rules | `(tactic| walk_at "USub") => `(tactic| refine u_neg ?_)
local macro_rules | `(tactic| walk_at "pen") => `(tactic| first | assumption | exact get_set (by assumption) | exact get_set (get_set (by assumption)) | exact get_here | (apply get_cons; walk_at "pen") | (apply get_app; walk_at "pen"))
local macro_rules | `(tactic| walk_at "mu") => `(tactic| simp only [List.set_cons_succ, List.set_set, List.set_cons_zero])
/-! ### told rows, begun rows, trees: plain facts -/
abbrev Told := List Nat × List (Option Nat)
def ansD (l : List (Option Nat)) : D := .tup (l.map optD)
def toldD (t : Told) : D := .tup [rowD t.1, ansD t.2]
structure TOk (asks : Nat) (t : Told) : Prop where
  len : t.2.length = t.1.length
  pos : 0 < t.1.length
  le : t.1.length ≤ 12
  ask : ∀ a ∈ t.1, a < asks
  ans : ∀ o ∈ t.2, ∀ x, o = some x → x < 8
def SOk (asks : Nat) (S : List Told) : Prop := ∀ t ∈ S, TOk asks t
/-- the told answers are those of f -/
def Con (f : List Nat → Nat) (S : List Told) : Prop := ∀ t ∈ S, ∀ (p a : Nat), t.2[p]? = some (some a) → f (t.1.take (p + 1)) = a
theorem SOk.app {asks : Nat} {S : List Told} {t : Told} (h : SOk asks S) (ht : TOk asks t) : SOk asks (S ++ [t]) := fun x hx => by
  rcases List.mem_append.mp hx with hx | hx
  · exact h x hx
  · rw [List.mem_singleton] at hx; subst hx; exact ht
theorem Con.app {f : List Nat → Nat} {S : List Told} {t : Told} (h : Con f S) (ht : ∀ (p a : Nat), t.2[p]? = some (some a) → f (t.1.take (p + 1)) = a) : Con f (S ++ [t]) := fun x hx => by
  rcases List.mem_append.mp hx with hx | hx
  · exact h x hx
  · rw [List.mem_singleton] at hx; subst hx; exact ht
/-- in, if it is new -/
def insL (L : List (List Nat)) (h : List Nat) : List (List Nat) := if h ∈ L then L else L ++ [h]
theorem ins_mem {L : List (List Nat)} {h x : List Nat} : x ∈ insL L h ↔ x ∈ L ∨ x = h := by
  unfold insL
  split
  · rename_i hh
    exact ⟨.inl, fun z => z.elim id fun e => by subst e; exact hh⟩
  · rw [List.mem_append, List.mem_singleton]
theorem ins_nodup {L : List (List Nat)} {h : List Nat} (n : L.Nodup) : (insL L h).Nodup := by
  unfold insL
  split
  · exact n
  · rename_i hh
    rw [List.nodup_append]
    exact ⟨n, by simp, fun a ha b hb e => by rw [List.mem_singleton] at hb; subst hb; subst e; exact hh ha⟩
theorem ins_len (L : List (List Nat)) (h : List Nat) : L.length ≤ (insL L h).length ∧ (insL L h).length ≤ L.length + 1 := by
  unfold insL
  split
  · omega
  · rw [List.length_append]; exact ⟨by omega, Nat.le_refl _⟩
theorem ins_old {L : List (List Nat)} {h : List Nat} (m : h ∈ L) : insL L h = L := if_pos m
theorem ins_new {L : List (List Nat)} {h : List Nat} (m : h ∉ L) : insL L h = L ++ [h] := if_neg m
def prefs (row : List Nat) : List (List Nat) := (List.range (row.length - 1)).map fun i => row.take (1 + i)
theorem prefs_get {row : List Nat} {i : Nat} (h : 1 + i < row.length) : (prefs row)[i]? = some (row.take (1 + i)) := by
  unfold prefs
  rw [List.getElem?_map, List.getElem?_range (by omega)]
  rfl
theorem prefs_len (row : List Nat) : (prefs row).length = row.length - 1 := by unfold prefs; rw [List.length_map, List.length_range]
def begT (B : List (List Nat)) (t : Told) : List (List Nat) := (prefs t.1).foldl insL B
def begF (S : List Told) : List (List Nat) := S.foldl begT [[]]
theorem begF_snoc (S : List Told) (t : Told) : begF (S ++ [t]) = begT (begF S) t := by unfold begF; rw [List.foldl_append]; rfl
theorem begP_next {B : List (List Nat)} {row : List Nat} {i : Nat} (h : 1 + i < row.length) : ((prefs row).take (i + 1)).foldl insL B = insL (((prefs row).take i).foldl insL B) (row.take (1 + i)) := by
  rw [filter_next (prefs_get h), List.foldl_append]
  rfl
theorem fold_nodup : ∀ (P : List (List Nat)) {B : List (List Nat)}, B.Nodup → (P.foldl insL B).Nodup
  | [], _, h => h
  | p :: P, _, h => fold_nodup P (ins_nodup h)
theorem fold_len : ∀ (P B : List (List Nat)), B.length ≤ (P.foldl insL B).length ∧ (P.foldl insL B).length ≤ B.length + P.length
  | [], B => ⟨Nat.le_refl _, Nat.le_refl _⟩
  | p :: P, B => by
    have h1 := fold_len P (insL B p)
    have h2 := ins_len B p
    show B.length ≤ (P.foldl insL (insL B p)).length ∧ (P.foldl insL (insL B p)).length ≤ B.length + (P.length + 1)
    omega
theorem fold_mem : ∀ (P : List (List Nat)) {B : List (List Nat)} {x : List Nat}, x ∈ B → x ∈ P.foldl insL B
  | [], _, _, h => h
  | p :: P, _, _, h => fold_mem P (ins_mem.mpr (.inl h))
theorem beg_nodup (S : List Told) : (begF S).Nodup := by
  unfold begF
  have H : ∀ (S : List Told) (B : List (List Nat)), B.Nodup → (S.foldl begT B).Nodup := by
    intro S
    induction S with
    | nil => exact fun _ h => h
    | cons t S ih => exact fun B h => ih _ (fold_nodup _ h)
  exact H S _ (by simp)
theorem beg_pos (S : List Told) : 0 < (begF S).length := by
  have H : ∀ (S : List Told) (B : List (List Nat)), 0 < B.length → 0 < (S.foldl begT B).length := by
    intro S
    induction S with
    | nil => exact fun _ h => h
    | cons t S ih => exact fun B h => ih _ (Nat.lt_of_lt_of_le h (fold_len _ _).1)
  exact H S _ (by decide)
theorem beg_cap {asks : Nat} {S : List Told} (h : SOk asks S) : (begF S).length ≤ 1 + 12 * S.length := by
  have H : ∀ (S : List Told) (B : List (List Nat)), SOk asks S → (S.foldl begT B).length ≤ B.length + 12 * S.length := by
    intro S
    induction S with
    | nil => exact fun _ _ => Nat.le_refl _
    | cons t S ih =>
      intro B h
      have h1 := ih (begT B t) fun x hx => h x (List.mem_cons_of_mem _ hx)
      have h2 := (fold_len (prefs t.1) B).2
      rw [prefs_len] at h2
      have h3 := (h t List.mem_cons_self).le
      have h4 : (begT B t).length ≤ B.length + (t.1.length - 1) := h2
      rw [List.foldl_cons, List.length_cons]
      omega
  exact H S _ h
theorem beg_row {asks : Nat} {S : List Told} (h : SOk asks S) : ∀ r ∈ begF S, r.length ≤ 12 ∧ ∀ a ∈ r, a < asks := by
  have G : ∀ (P B : List (List Nat)), (∀ r ∈ P, r.length ≤ 12 ∧ ∀ a ∈ r, a < asks) → (∀ r ∈ B, r.length ≤ 12 ∧ ∀ a ∈ r, a < asks) → ∀ r ∈ P.foldl insL B, r.length ≤ 12 ∧ ∀ a ∈ r, a < asks := by
    intro P
    induction P with
    | nil => exact fun _ _ h => h
    | cons p P ih =>
      intro B hP hB
      refine ih _ (fun r hr => hP r (List.mem_cons_of_mem _ hr)) fun r hr => ?_
      rcases ins_mem.mp hr with hr | rfl
      · exact hB r hr
      · exact hP _ List.mem_cons_self
  have H : ∀ (S : List Told) (B : List (List Nat)), SOk asks S → (∀ r ∈ B, r.length ≤ 12 ∧ ∀ a ∈ r, a < asks) → ∀ r ∈ S.foldl begT B, r.length ≤ 12 ∧ ∀ a ∈ r, a < asks := by
    intro S
    induction S with
    | nil => exact fun _ _ h => h
    | cons t S ih =>
      intro B h hB
      refine ih _ (fun x hx => h x (List.mem_cons_of_mem _ hx)) (G _ _ (fun r hr => ?_) hB)
      obtain ⟨i, _, rfl⟩ := List.mem_map.mp hr
      have ht := h t List.mem_cons_self
      exact ⟨Nat.le_trans (List.length_take_le' _ _) ht.le, fun a ha => ht.ask a (List.mem_of_mem_take ha)⟩
  exact H S _ h fun r hr => by rw [List.mem_singleton] at hr; subst hr; exact ⟨Nat.zero_le _, fun a ha => (nomatch ha)⟩
/-- the place of a row -/
def idxO (B : List (List Nat)) (h : List Nat) : Option Nat := (List.range B.length).find? fun j => B.getD j [] == h
theorem idx_at {B : List (List Nat)} (n : B.Nodup) {j : Nat} {h : List Nat} (hj : B[j]? = some h) : idxO B h = some j := by
  have hl := lt_of_get hj
  refine find_first hl (fun i hi => ?_) ?_
  · rw [beq_eq_false_iff_ne]
    intro e
    rw [List.getD_eq_getElem?_getD, List.getElem?_eq_getElem (by omega)] at e
    have e2 : B[j] = h := by rw [List.getElem?_eq_getElem hl] at hj; exact Option.some.inj hj
    have e1 : B[i]'(by omega) = h := e
    exact absurd ((List.nodup_iff_pairwise_ne.mp n |> List.pairwise_iff_getElem.mp) i j (by omega) hl hi) (by rw [e1, e2]; exact fun z => z rfl)
  · rw [List.getD_eq_getElem?_getD, hj]
    exact beq_self_eq_true _
theorem idx_no {B : List (List Nat)} {h : List Nat} (hn : h ∉ B) : idxO B h = none := by
  refine find_none fun j hj => ?_
  rw [beq_eq_false_iff_ne]
  intro e
  rw [List.getD_eq_getElem?_getD, List.getElem?_eq_getElem hj] at e
  exact hn (e ▸ List.getElem_mem hj)
theorem idx_lt {B : List (List Nat)} {h : List Nat} {j : Nat} (e : idxO B h = some j) : j < B.length := List.mem_range.mp (List.mem_of_find?_eq_some e)
def tldT (t : Told) (h : List Nat) : Bool := decide (0 < h.length) && (decide (t.1.take h.length = h) && (t.2.getD (h.length - 1) none).isSome)
def tldB (S : List Told) (h : List Nat) : Bool := S.any fun t => tldT t h
def ansF (f : List Nat → Nat) (S : List Told) (h : List Nat) : Option Nat := if tldB S h then some (f h) else none
theorem tldB_snoc (S : List Told) (t : Told) (h : List Nat) : tldB (S ++ [t]) h = (tldB S h || tldT t h) := by
  unfold tldB
  rw [List.any_append]
  simp
theorem tld_at {t : Told} {p : Nat} (hp : p < t.1.length) : tldT t (t.1.take (p + 1)) = (t.2.getD p none).isSome := by
  unfold tldT
  have e : (t.1.take (p + 1)).length = p + 1 := by rw [List.length_take]; omega
  rw [e]
  simp
/-- the rooms told, as a dict -/
def bD (B : List (List Nat)) : List (List Key × D) := (List.range B.length).map fun i => (rk (B.getD i []), .int (i : Nat))
theorem bD_app (B : List (List Nat)) (h : List Nat) : bD (B ++ [h]) = bD B ++ [(rk h, .int (B.length : Nat))] := by
  unfold bD
  rw [List.length_append, List.length_singleton, List.range_succ, List.map_append]
  congr 1
  · refine List.map_congr_left fun i hi => ?_
    have := List.mem_range.mp hi
    rw [List.getD_eq_getElem?_getD, List.getD_eq_getElem?_getD, List.getElem?_append_left this]
  · show [(rk ((B ++ [h]).getD B.length []), _)] = _
    rw [List.getD_eq_getElem?_getD, List.getElem?_append_right (Nat.le_refl _), Nat.sub_self]
    rfl
theorem bD_val {B : List (List Nat)} (n : B.Nodup) (h : List Nat) : (valD (bD B) (rk h)).getD .non = optD (idxO B h) ∧ (valD (bD B) (rk h)).isSome = decide (h ∈ B) := by
  by_cases m : h ∈ B
  · obtain ⟨j, hj, e⟩ := List.mem_iff_getElem.mp m
    have hj' : B[j]? = some h := by rw [List.getElem?_eq_getElem hj, e]
    have e1 : valD (bD B) (rk h) = some (.int (j : Nat)) := valD_some (f := fun i : Nat => rk (B.getD i [])) (g := fun i => D.int (i : Nat)) ⟨j, List.mem_range.mpr hj, by rw [List.getD_eq_getElem?_getD, hj']; rfl⟩ fun i hi e2 => by
      have hi := List.mem_range.mp hi
      have e3 : B[i]? = some h := by rw [← rk_inj e2, List.getD_eq_getElem?_getD, List.getElem?_eq_getElem hi]; rfl
      have := (idx_at n e3).symm.trans (idx_at n hj')
      cases this
      rfl
    rw [e1, idx_at n hj', decide_eq_true m]
    exact ⟨rfl, rfl⟩
  · have e1 : valD (bD B) (rk h) = none := valD_none (f := fun i : Nat => rk (B.getD i [])) (g := fun i => D.int (i : Nat)) fun i hi e2 => by
      have hi := List.mem_range.mp hi
      have e3 := rk_inj e2
      rw [List.getD_eq_getElem?_getD, List.getElem?_eq_getElem hi] at e3
      exact m (e3 ▸ List.getElem_mem hi)
    rw [e1, idx_no m, decide_eq_false m]
    exact ⟨rfl, rfl⟩
theorem bD_zval {B : List (List Nat)} (k : List Key) : valZ ((bD B).map (·.1)) ((bD B).map (·.2)) k = valD (bD B) k := valZ_map (f := fun i : Nat => rk (B.getD i [])) (g := fun i => D.int (i : Nat)) _ k
theorem bD_keys (B : List (List Nat)) : ((bD B).map (·.1)).map tkD = B.map rowD := by
  unfold bD
  rw [List.map_map, List.map_map]
  refine List.ext_getElem? fun i => ?_
  rw [List.getElem?_map, List.getElem?_map]
  by_cases hi : i < B.length
  · rw [List.getElem?_range hi, List.getElem?_eq_getElem hi]
    show some (tkD (rk (B.getD i []))) = some (rowD B[i])
    rw [← rk_eq, List.getD_eq_getElem?_getD, List.getElem?_eq_getElem hi]
    rfl
  · rw [List.getElem?_eq_none (by rw [List.length_range]; omega), List.getElem?_eq_none (by omega)]
    rfl
theorem bD_len (B : List (List Nat)) : (bD B).length = B.length := by unfold bD; rw [List.length_map, List.length_range]
/-- the answers told, as a dict -/
def kD' (f : List Nat → Nat) (L : List (List Nat)) : List (List Key × D) := L.map fun h => (rk h, .int (f h : Nat))
theorem kD_val (f : List Nat → Nat) (L : List (List Nat)) (h : List Nat) (x : D) : (valD (kD' f L) (rk h)).getD x = (if h ∈ L then .int (f h : Nat) else x) := by
  by_cases m : h ∈ L
  · have : valD (kD' f L) (rk h) = some (.int (f h : Nat)) := valD_some (f := fun h : List Nat => rk h) (g := fun h => D.int (f h : Nat)) ⟨h, m, rfl⟩ fun a _ e => by rw [rk_inj e]
    rw [this, if_pos m]
    rfl
  · have : valD (kD' f L) (rk h) = none := valD_none (f := fun h : List Nat => rk h) (g := fun h => D.int (f h : Nat)) fun a ha e => m (rk_inj e ▸ ha)
    rw [this, if_neg m]
    rfl
theorem kD_put (f : List Nat → Nat) (L : List (List Nat)) (h : List Nat) : putD (kD' f L) (rk h) (.int (f h : Nat)) = kD' f (insL L h) := by
  by_cases m : h ∈ L
  · rw [ins_old m]
    refine putD_same ?_ fun e he e2 => ?_
    · have : valD (kD' f L) (rk h) = some (.int (f h : Nat)) := valD_some (f := fun h : List Nat => rk h) (g := fun h => D.int (f h : Nat)) ⟨h, m, rfl⟩ fun a _ e => by rw [rk_inj e]
      rw [this]
      rfl
    · obtain ⟨a, _, rfl⟩ := List.mem_map.mp he
      have e2 : rk a = rk h := e2
      show D.int (f a : Nat) = _
      rw [rk_inj e2]
  · have e1 : valD (kD' f L) (rk h) = none := valD_none (f := fun h : List Nat => rk h) (g := fun h => D.int (f h : Nat)) fun a ha e => m (rk_inj e ▸ ha)
    rw [ins_new m, putD_new e1]
    unfold kD'
    rw [List.map_append]
    rfl
theorem kD_zval (f : List Nat → Nat) (L : List (List Nat)) (k : List Key) : valZ ((kD' f L).map (·.1)) ((kD' f L).map (·.2)) k = valD (kD' f L) k := valZ_map (f := fun h : List Nat => rk h) (g := fun h => D.int (f h : Nat)) _ k
/-- the tree of a sheet -/
def treeR (f : List Nat → Nat) (S : List Told) (asks : Nat) (row : List Nat) : List Cell := (List.range asks).map fun a => (idxO (begF S) (row ++ [a]), ansF f S (row ++ [a]))
def treeM (f : List Nat → Nat) (S : List Told) (asks : Nat) : Mach := ⟨asks, (begF S).map (treeR f S asks)⟩
theorem tree_ok {f : List Nat → Nat} {S : List Told} {asks most : Nat} (ha : 0 < asks ∧ asks ≤ 4) (hb : (begF S).length ≤ most) (hf : ∀ h, tldB S h = true → f h < 8) : (treeM f S asks).Ok most := by
  refine ⟨ha.1, ha.2, by show 0 < ((begF S).map _).length; rw [List.length_map]; exact beg_pos S, by show ((begF S).map _).length ≤ most; rw [List.length_map]; exact hb, fun r hr => ?_⟩
  obtain ⟨row, _, rfl⟩ := List.mem_map.mp hr
  refine ⟨by show ((List.range asks).map _).length = asks; rw [List.length_map, List.length_range], fun c hc => ?_⟩
  obtain ⟨a, _, rfl⟩ := List.mem_map.mp hc
  refine ⟨fun g e => ?_, fun s e => ?_⟩
  · show g < ((begF S).map _).length
    rw [List.length_map]
    exact idx_lt e
  · have e : ansF f S (row ++ [a]) = some s := e
    unfold ansF at e
    split at e
    · rename_i h
      cases e
      exact hf _ h
    · cases e
theorem con_lt {f : List Nat → Nat} {asks : Nat} {S : List Told} (hS : SOk asks S) (hc : Con f S) {h : List Nat} (ht : tldB S h = true) : f h < 8 := by
  obtain ⟨t, htS, h1⟩ := List.any_eq_true.mp ht
  unfold tldT at h1
  rw [Bool.and_eq_true, Bool.and_eq_true, decide_eq_true_iff, decide_eq_true_iff] at h1
  obtain ⟨h0, h2, h3⟩ := h1
  obtain ⟨a, ha⟩ := Option.isSome_iff_exists.mp h3
  rw [List.getD_eq_getElem?_getD] at ha
  have ha' : t.2[h.length - 1]? = some (some a) := by
    cases e : t.2[h.length - 1]? with
    | none => rw [e] at ha; cases ha
    | some o => rw [e] at ha; exact congrArg some ha
  have e := hc t htS _ _ ha'
  rw [Nat.sub_add_cancel h0, h2] at e
  rw [e]
  exact (hS t htS).ans _ (List.mem_of_getElem? ha') _ rfl
/-! data as it is shown -/
def optP : Option Nat → PyData
  | none => .none
  | some n => .int n
def machP (m : Mach) : PyData := .tuple [.int m.asks, .tuple (m.rooms.map fun r => .tuple (r.map fun c => .tuple [optP c.1, optP c.2]))]
theorem shw_opt (μ : Mu) : ∀ o, Shw μ (optD o) (optP o)
  | none => .non
  | some n => .int _
theorem shw_cell (μ : Mu) (c : Cell) : Shw μ (cellD c) (.tuple [optP c.1, optP c.2]) := .tup (.cons (shw_opt μ _) (.cons (shw_opt μ _) .nil))
theorem shw_mach (μ : Mu) (m : Mach) : Shw μ (machD m) (machP m) := .tup (.cons (.int _) (.cons (.tup (Shws.map (fun r => .tup (Shws.map (shw_cell μ) r)) m.rooms)) .nil))
theorem tm_opt {o : Option Nat} {b : Nat} (h : ∀ x, o = some x → x < b) (hb : b ≤ 999999999) : Tm (optP o) 0 0 := by
  cases o with
  | none => exact Tm.non
  | some x => exact Tm.int (by have := h x rfl; omega)
theorem tm_mach {m : Mach} {most : Nat} (hm : m.Ok most) (hmost : most ≤ 100) : Tm (machP m) 5000 5 := by
  have ha := hm.a4
  have hr := hm.rm
  have t1 : ∀ r ∈ m.rooms, Tm (PyData.tuple (r.map fun c : Cell => .tuple [optP c.1, optP c.2])) 12 2 := fun r hr => by
    obtain ⟨hl, hc⟩ := hm.ok r hr
    have t : Tms (r.map fun c : Cell => PyData.tuple [optP c.1, optP c.2]) ((2 + 1) * r.length) 1 := Tms.map fun c hc' => Tm.tup ((Tms.cons (tm_opt (hc c hc').1 (by omega)) (.cons (tm_opt (hc c hc').2 (by decide)) .nil)).mono (by decide) (by decide))
    exact (Tm.tup t).mono (by omega) (by omega)
  have t2 := Tms.map t1
  exact (Tm.tup (.cons (Tm.int (by omega)) (.cons (Tm.tup t2) .nil))).mono (by omega) (by omega)
end L37

namespace L37
open PySem PySem.Spec L2 Oc
open Evl (Ex)
local macro_rules | `(tactic| walk_at "s") => `(tactic| first | assumption | omega | decide | (simp only [] at *; omega))
local macro_rules | `(tactic| walk_at "Add") => `(tactic| first | refine o_addN ?_ | refine o_add ?_ | refine o_addS (by walk_at "s") ?_ | refine o_addT (by walk_at "s") ?_ | refine o_addL (by walk_at "s") ?_)
local macro_rules | `(tactic| walk_at "Sub") => `(tactic| refine o_sub ?_)
local macro_rules | `(tactic| walk_at "Mult") => `(tactic| refine o_mul (by walk_at "s") ?_)
local macro_rules | `(tactic| walk_at "Mod") => `(tactic| first | refine o_modN (by walk_at "s") ?_ | refine o_mod (by walk_at "s") ?_)
local macro_rules | `(tactic| walk_at "FloorDiv") => `(tactic| first | refine o_divN (by walk_at "s") ?_ | refine o_div (by walk_at "s") ?_)
local macro_rules | `(tactic| walk_at "Pow") => `(tactic| refine o_pow (by walk_at "s") ?_)
local macro_rules | `(tactic| walk_at "LShift") => `(tactic| refine o_shl (by walk_at "s") ?_)
local macro_rules | `(tactic| walk_at "RShift") => `(tactic| refine o_shr (by walk_at "s") ?_)
local macro_rules | `(tactic| walk_at "BitAnd") => `(tactic| refine o_band ?_)
local macro_rules | `(tactic| walk_at "BitXor") => `(tactic| refine o_bxor ?_)
local macro_rules | `(tactic| walk_at "BitOr") => `(tactic| refine o_bor ?_)
local macro_rules | `(tactic| walk_at "Lt") => `(tactic| refine o_lt ?_)
local macro_rules | `(tactic| walk_at "LtE") => `(tactic| refine o_le ?_)
local macro_rules | `(tactic| walk_at "Gt") => `(tactic| refine o_gt ?_)
local macro_rules | `(tactic| walk_at "GtE") => `(tactic| refine o_ge ?_)
local macro_rules | `(tactic| walk_at "Eq") => `(tactic| refine o_eq (by rfl) ?_)
local macro_rules | `(tactic| walk_at "NotEq") => `(tactic| refine o_ne (by rfl) ?_)
local macro_rules | `(tactic| walk_at "Is") => `(tactic| refine o_isN ?_)
local macro_rules | `(tactic| walk_at "IsNot") => `(tactic| refine o_notN ?_)
local macro_rules | `(tactic| walk_at "In") => `(tactic| refine o_in (by first | exact .inl rfl | exact .inr (.inl rfl) | exact .inr (.inr rfl)) (by rfl) (by rfl) ?_)
local macro_rules | `(tactic| walk_at "NotIn") => `(tactic| refine o_nin (by first | exact .inl rfl | exact .inr (.inl rfl) | exact .inr (.inr rfl)) (by rfl) (by rfl) ?_)
local macro_rules | `(tactic| walk_at "c_abs") => `(tactic| refine c_abs ?_)
local macro_rules | `(tactic| walk_at "c_len") => `(tactic| first | refine c_lenL ?_ | refine c_lenC ?_ | refine c_lenT ?_ | refine c_lenS (by walk_at "s") ?_ | refine c_lenP 0 (by first | assumption | rfl) ?_)
local macro_rules | `(tactic| walk_at "c_str") => `(tactic| refine c_str (by walk_at "s") ?_)
local macro_rules | `(tactic| walk_at "c_isinstance") => `(tactic| refine c_isi rfl (by rfl) ?_)
local macro_rules | `(tactic| walk_at "sl") => `(tactic| first | refine sd_tup ?_ | refine sd_lst ?_)
local macro_rules | `(tactic| walk_at "c_tuple") => `(tactic| first | refine c_tupL ?_ | refine c_tupP 0 (by first | assumption | rfl) ?_ | refine c_tupT ?_)
local macro_rules | `(tactic| walk_at "c_int") => `(tactic| first | refine c_intB ?_)
local macro_rules | `(tactic| walk_at "USub") => `(tactic| refine u_neg ?_)
local macro_rules | `(tactic| walk_at "pen") => `(tactic| first | assumption | exact get_set (by assumption) | exact get_set (get_set (by assumption)) | exact get_here | (apply get_cons; walk_at "pen") | (apply get_app; walk_at "pen"))
local macro_rules | `(tactic| walk_at "mu") => `(tactic| simp only [List.set_cons_succ, List.set_set, List.set_cons_zero])
/-! ### trees: the walk -/
def S_known : FS := fun ds μ Φ => ∃ (S : List Told) (asks : Nat) (f : List Nat → Nat) (d : D), ds = [d] ∧ LV d μ (S.map toldD) ∧ SOk asks S ∧ Con f S ∧ S.length ≤ 1000 ∧ ∀ (L : List (List Nat)) (q : Addr), (∀ h, h ∈ L ↔ tldB S h = true) → Φ (.ptr q) ((q, .dt (kD' f L)) :: μ)
def S_beg : FS := fun ds μ Φ => ∃ (S : List Told) (asks : Nat) (d : D), ds = [d] ∧ LV d μ (S.map toldD) ∧ SOk asks S ∧ S.length ≤ 1000 ∧ ∀ q : Addr, Φ (.ptr q) ((q, .dt (bD (begF S))) :: μ)
def S_tree : FS := fun ds μ Φ => ∃ (S : List Told) (asks few : Nat) (f : List Nat → Nat) (d : D), ds = [.int asks, d] ∧ LV d μ (S.map toldD) ∧ SOk few S ∧ Con f S ∧ S.length ≤ 1000 ∧ asks ≤ 4 ∧ (begF S).length ≤ 24 ∧ Φ (machD (treeM f S asks)) μ
def S_begun : FS := fun ds μ Φ => ∃ (S : List Told) (asks : Nat), ds = [.lst (S.map toldD)] ∧ SOk asks S ∧ S.length ≤ 1000 ∧ Φ (.lst ((begF S).map rowD)) μ
theorem tld_nil (h : List Nat) : tldB [] h = false := rfl
theorem none_lt {P : Nat → Prop} : ¬ ∃ p, p < 0 ∧ P p := fun ⟨p, h, _⟩ => absurd h (Nat.not_lt_zero _)
theorem lt_next {P : Nat → Prop} {j : Nat} : (∃ p, p < j + 1 ∧ P p) ↔ ((∃ p, p < j ∧ P p) ∨ P j) := by
  constructor
  · rintro ⟨p, hp, h⟩
    by_cases e : p = j
    · subst e; exact .inr h
    · exact .inl ⟨p, by omega, h⟩
  · rintro (⟨p, hp, h⟩ | h)
    · exact ⟨p, by omega, h⟩
    · exact ⟨j, by omega, h⟩
theorem tld_ex {asks : Nat} {t : Told} (ht : TOk asks t) (h : List Nat) : tldT t h = true ↔ ∃ p, p < t.2.length ∧ ((t.2.getD p none).isSome = true ∧ h = t.1.take (p + 1)) := by
  constructor
  · intro z
    unfold tldT at z
    rw [Bool.and_eq_true, Bool.and_eq_true, decide_eq_true_iff, decide_eq_true_iff] at z
    obtain ⟨h0, h1, h2⟩ := z
    have hl : h.length ≤ t.1.length := by
      have := congrArg List.length h1
      rw [List.length_take] at this
      omega
    exact ⟨h.length - 1, by rw [ht.len]; omega, h2, by rw [Nat.sub_add_cancel h0, h1]⟩
  · rintro ⟨p, hp, h1, rfl⟩
    rw [tld_at (by rw [← ht.len]; exact hp)]
    exact h1
section
variable {P : Program} {w : World} {K : PySem.W.Frag} {mg : Str → Option Value} {base : Heap}
theorem ok_known (B : Src K mg "told_answers" s_told_answers ["sheet"]) (T : Tx mg)  : KnG P w K mg base 1 "told_answers" ["sheet"] S_known := by
  refine kn_ofG B sc_told_answers (fun ds μ Φ h => by obtain ⟨_, _, _, _, rfl, _⟩ := h; rfl) fun f cdv A outer s H E grd hr ds μ Φ h => ?_
  obtain ⟨S, asks, f, d, rfl, hlv, hS, hC, hl, k⟩ := h
  have hu := hu_of hr.r
  refine wSs_rho (ρ' := [_, _, _, _, _, _, _, _, _]) rfl ?_
  -- known = {}
  refine w_cons (w_set 1 sc_told_answers.nd rfl (.inl rfl) (.inl rfl) ?_)
  refine w_dnewT fun q => ?_
  -- for number, told_row in enumerate(sheet):
  refine w_cons (w_forPV [2, 3, 4, 5, 6, 7, 8] ?_ PassesOwn.never rfl)
  refine wi_enumLV T.b_enumerate ?_
  refine w_name 0 rfl (.inl rfl) rfl ?_
  refine ⟨_, hlv.cons _, ?_⟩
  refine ⟨_, fun i vs μ' => ∃ (L : List (List Nat)) (w2 w3 w4 w5 w6 w7 w8 : Option D), (∀ h, h ∈ L ↔ tldB (S.take i) h = true) ∧ (L.length ≤ 12 * i) ∧ vs = [w2, w3, w4, w5, w6, w7, w8] ∧ (q, .dt (kD' f L)) :: μ = μ', (by first | exact nats_len | exact nats2_len | exact enumD_len.trans (List.length_map _) | exact enumD_len | exact List.length_map _ | exact rfl | simp), ⟨[], _, _, _, _, _, _, _, (fun h => ⟨fun z => (nomatch z), fun z => (by cases z)⟩), (Nat.zero_le _), rfl, rfl⟩, (fun _ _ _ h => by obtain ⟨L, _, _, _, _, _, _, _, hL, hLl, rfl, rfl⟩ := h; exact hlv.cons _), ?_, ?_⟩
  · rintro number x vs μ' hx ⟨L, w2, w3, w4, w5, w6, w7, w8, hL, hLl, rfl, rfl⟩
    refine wG_rho (ρ' := [_, _, _, _, _, _, _, _, _]) rfl ?_
    obtain ⟨told_row, htold_row, rfl⟩ := enum_get' hx
    have htm := List.mem_of_getElem? htold_row
    have ht := hS _ htm
    have hil := lt_of_get htold_row
    have htl := ht.len
    have htle := ht.le
    first | refine wg_tup rfl rfl ?_ | refine wg_lst rfl rfl ?_
    refine wgs_cons ?_
    refine wg_name 2 sc_told_answers.nd rfl (.inl rfl) (.inl rfl) ?_
    refine wgs_cons ?_
    refine wg_name 3 sc_told_answers.nd rfl (.inl rfl) (.inl rfl) ?_
    refine wgs_nil ?_
    -- row, answers = told_row
    refine w_cons (w_asg ?_)
    refine w_name 3 rfl (.inl rfl) rfl ?_
    first | refine wg_tup rfl rfl ?_ | refine wg_lst rfl rfl ?_
    refine wgs_cons ?_
    refine wg_name 4 sc_told_answers.nd rfl (.inl rfl) (.inl rfl) ?_
    refine wgs_cons ?_
    refine wg_name 5 sc_told_answers.nd rfl (.inl rfl) (.inl rfl) ?_
    refine wgs_nil ?_
    -- for place, answer in enumerate(answers):
    refine w_cons (w_forV [6, 7, 8] ?_ PassesOwn.never rfl)
    refine wi_enumT T.b_enumerate ?_
    refine w_name 5 rfl (.inl rfl) rfl ?_
    refine ⟨_, rfl, ?_⟩
    refine ⟨_, fun i vs μ' => ∃ (L2 : List (List Nat)) (w6 w7 w8 : Option D), (∀ h, h ∈ L2 ↔ (tldB (S.take number) h = true ∨ ∃ p, p < i ∧ ((told_row.2.getD p none).isSome = true ∧ h = told_row.1.take (p + 1)))) ∧ (L2.length ≤ 12 * number + i) ∧ vs = [w6, w7, w8] ∧ (q, .dt (kD' f L2)) :: μ = μ', (by first | exact nats_len | exact nats2_len | exact enumD_len.trans (List.length_map _) | exact enumD_len | exact List.length_map _ | exact rfl | simp), ⟨L, _, _, _, (fun h => (hL h).trans ⟨.inl, fun z => z.elim id fun z => absurd z none_lt⟩), (by omega), rfl, rfl⟩, ?_, ?_⟩
    · rintro place x vs μ' hx ⟨L2, w6, w7, w8, h2, hl2, rfl, rfl⟩
      refine wG_rho (ρ' := [_, _, _, _, _, _, _, _, _]) rfl ?_
      obtain ⟨answer, hanswer, rfl⟩ := enum_get' hx
      have hpl := lt_of_get hanswer
      have hgd : told_row.2.getD place none = answer := by rw [List.getD_eq_getElem?_getD, hanswer]; rfl
      first | refine wg_tup rfl rfl ?_ | refine wg_lst rfl rfl ?_
      refine wgs_cons ?_
      refine wg_name 6 sc_told_answers.nd rfl (.inl rfl) (.inl rfl) ?_
      refine wgs_cons ?_
      refine wg_name 7 sc_told_answers.nd rfl (.inl rfl) (.inl rfl) ?_
      refine wgs_nil ?_
      -- here = row[:place + 1]
      refine w_cons (w_set 8 sc_told_answers.nd rfl (.inl rfl) (.inl rfl) ?_)
      refine w_sl ?_
      refine w_name 4 rfl (.inl rfl) rfl ?_
      refine wo_none ?_
      refine wo_some ?_
      refine w_bin ?_
      refine w_name 6 rfl (.inl rfl) rfl ?_
      refine w_int ?_
      first | refine o_addN (b := 1) ?_ | walk_at "Add"
      refine ⟨_, rfl, ?_⟩
      refine sd_tup ?_
      rw [cut_map_to]
      -- if answer is not None:
      refine w_cons (w_if ?_)
      refine wt_cmp ?_
      refine w_name 7 rfl (.inl rfl) rfl ?_
      refine w_non ?_
      walk_at "IsNot"
      refine ⟨_, rfl, ?_⟩
      refine ⟨fun hb => ?_, fun hb => ?_⟩
      · -- if known.get(here, answer) != answer:
        refine w_cons (w_if ?_)
        refine wt_cmp ?_
        refine w_tget2 hu ?_
        refine w_name 1 rfl (.inl rfl) rfl ?_
        refine ⟨q, rfl, ⟨0, _, rfl⟩, ?_⟩
        refine w_name 8 rfl (.inl rfl) rfl ?_
        refine w_name 7 rfl (.inl rfl) rfl ?_
        obtain ⟨a, rfl⟩ : ∃ a, answer = some a := by cases answer with | none => cases hb | some a => exact ⟨a, rfl⟩
        have hfa := hC _ htm place a hanswer
        refine ⟨0, _, rk (told_row.1.take (place + 1)), rk_eq _, rfl, ?_⟩
        have hv := kD_val f L2 (told_row.1.take (place + 1)) (.int (a : Nat))
        rw [hfa] at hv
        rw [show (valD (kD' f L2) (rk (told_row.1.take (place + 1)))).getD (optD (some a)) = .int (a : Nat) from hv.trans (by split <;> rfl)]
        refine w_name 7 rfl (.inl rfl) rfl ?_
        refine o_ne (by rfl) ?_
        refine ⟨_, rfl, ?_⟩
        refine ⟨fun hb1 => ?_, fun hb1 => ?_⟩
        · -- raise Clash(number, place)
          refine w_cons (w_never ?_)
          have hb1 : (!D.eqf (.int (a : Nat)) (.int (a : Nat))) = true := hb1
          simp [D.eqf] at hb1
        refine w_nil ?_
        -- known[here] = answer
        refine w_cons (w_tput hu ?_)
        refine w_name 7 rfl (.inl rfl) rfl ?_
        refine w_name 1 rfl (.inl rfl) rfl ?_
        refine w_name 8 rfl (.inl rfl) rfl ?_
        refine ⟨q, 0, _, rk (told_row.1.take (place + 1)), rfl, rk_eq _, rfl, by unfold kD'; rw [List.length_map]; omega, ?_⟩
        have hput := kD_put f L2 (told_row.1.take (place + 1))
        rw [hfa] at hput
        rw [show putD (kD' f L2) (rk (told_row.1.take (place + 1))) (optD (some a)) = _ from hput, List.set_cons_zero]
        refine w_nil ?_
        refine w_nil ?_
        exact ⟨[_, _, _], rfl, ⟨insL L2 (told_row.1.take (place + 1)), _, _, _, (fun h => by rw [ins_mem, h2, lt_next, or_assoc, hgd]; exact ⟨fun z => z.elim .inl fun z => .inr (z.imp id fun e => ⟨rfl, e⟩), fun z => z.elim .inl fun z => .inr (z.imp id fun e => e.2)⟩), (by have := (ins_len L2 (told_row.1.take (place + 1))).2; omega), rfl, rfl⟩⟩
      · refine w_nil ?_
        refine w_nil ?_
        obtain rfl : answer = none := by cases answer with | none => rfl | some a => cases hb
        exact ⟨[_, _, _], rfl, ⟨L2, _, _, _, (fun h => by rw [h2, lt_next, hgd]; exact ⟨fun z => z.imp id .inl, fun z => z.imp id fun z => z.elim id fun e => (by cases e.1)⟩), (by omega), rfl, rfl⟩⟩
    rintro vs μ' ⟨L2, w6, w7, w8, h2, hl2, rfl, rfl⟩
    refine wSs_rho (ρ' := [_, _, _, _, _, _, _, _, _]) rfl ?_
    refine w_nil ?_
    exact ⟨[_, _, _, _, _, _, _], rfl, ⟨L2, _, _, _, _, _, _, _, (fun h => by rw [h2, filter_next htold_row, tldB_snoc, Bool.or_eq_true, tld_ex ht]), (by omega), rfl, rfl⟩⟩
  rintro vs μ' ⟨L, w2, w3, w4, w5, w6, w7, w8, hL, hLl, rfl, rfl⟩
  refine wSs_rho (ρ' := [_, _, _, _, _, _, _, _, _]) rfl ?_
  -- return known
  refine w_cons (w_ret ?_)
  refine w_name 1 rfl (.inl rfl) rfl ?_
  rw [List.take_of_length_le (Nat.le_refl _)] at hL
  exact k L q hL
theorem ok_beg (B : Src K mg "beginnings" s_beginnings ["sheet"]) (T : Tx mg)  : KnG P w K mg base 1 "beginnings" ["sheet"] S_beg := by
  refine kn_ofG B sc_beginnings (fun ds μ Φ h => by obtain ⟨_, _, _, rfl, _⟩ := h; rfl) fun f cdv A outer s H E grd hr ds μ Φ h => ?_
  obtain ⟨S, asks, d, rfl, hlv, hS, hl, k⟩ := h
  have hu := hu_of hr.r
  refine wSs_rho (ρ' := [_, _, _, _, _]) rfl ?_
  -- found = {(): 0}
  refine w_cons (w_set 1 sc_beginnings.nd rfl (.inl rfl) (.inl rfl) ?_)
  refine w_dispT hu fun q => ?_
  refine w_tup ?_
  refine wa_nil ?_
  refine ⟨by simp, ?_⟩
  refine w_int ?_
  refine ⟨[], _, rfl, rfl, ?_⟩
  rw [show [(([] : List Key), D.int 0)] = bD (begF []) from rfl]
  -- for row, answers in sheet:
  refine w_cons (w_forPV [2, 3, 4] ?_ PassesOwn.never rfl)
  refine wi_lv ?_
  refine w_name 0 rfl (.inl rfl) rfl ?_
  refine ⟨_, hlv.cons _, ?_⟩
  refine ⟨_, fun i vs μ' => ∃  (w2 w3 w4 : Option D), vs = [w2, w3, w4] ∧ (q, .dt (bD (begF (S.take i)))) :: μ = μ', (by first | exact nats_len | exact nats2_len | exact enumD_len.trans (List.length_map _) | exact enumD_len | exact List.length_map _ | exact rfl | simp), ⟨_, _, _, rfl, rfl⟩, (fun _ _ _ h => by obtain ⟨_, _, _, rfl, rfl⟩ := h; exact hlv.cons _), ?_, ?_⟩
  · rintro ie x vs μ' hx ⟨w2, w3, w4, rfl, rfl⟩
    refine wG_rho (ρ' := [_, _, _, _, _]) rfl ?_
    obtain ⟨e, he, rfl⟩ := map_get' hx
    have ht := hS _ (List.mem_of_getElem? he)
    have htle := ht.le
    have hil := lt_of_get he
    have hcap := beg_cap (S := S.take ie) fun x hx => hS x (List.mem_of_mem_take hx)
    have hcl := List.length_take_le ie S
    have hnd := beg_nodup (S.take ie)
    first | refine wg_tup rfl rfl ?_ | refine wg_lst rfl rfl ?_
    refine wgs_cons ?_
    refine wg_name 2 sc_beginnings.nd rfl (.inl rfl) (.inl rfl) ?_
    refine wgs_cons ?_
    refine wg_name 3 sc_beginnings.nd rfl (.inl rfl) (.inl rfl) ?_
    refine wgs_nil ?_
    -- for size in range(1, len(row)):
    refine w_cons (w_forV [4] ?_ PassesOwn.never rfl)
    refine wi_rngN2 T.b_range ?_
    refine w_int ?_
    refine w_callB (id := "len") T.b_len ?_
    refine wa_cons ?_
    refine w_name 2 rfl (.inl rfl) rfl ?_
    refine wa_nil ?_
    walk_at "c_len"
    try rw [List.length_map]
    refine ⟨1, _, by rfl, by rfl, by omega, ?_⟩
    refine ⟨_, fun i vs μ' => ∃  (w4 : Option D), vs = [w4] ∧ (q, .dt (bD (((prefs e.1).take i).foldl insL (begF (S.take ie))))) :: μ = μ', (by first | exact nats_len | exact nats2_len | exact enumD_len.trans (List.length_map _) | exact enumD_len | exact List.length_map _ | exact rfl | simp), ⟨_, rfl, rfl⟩, ?_, ?_⟩
    · rintro size x vs μ' hx ⟨w4, rfl, rfl⟩
      refine wG_rho (ρ' := [_, _, _, _, _]) rfl ?_
      obtain ⟨hsize, rfl⟩ := nats2_get hx
      have hnx := begP_next (B := begF (S.take ie)) (row := e.1) hsize
      have hnd2 := fold_nodup ((prefs e.1).take size) hnd
      have hln := (fold_len ((prefs e.1).take size) (begF (S.take ie))).2
      have hlt := List.length_take_le size (prefs e.1)
      generalize ((prefs e.1).take size).foldl insL (begF (S.take ie)) = B at hnx hnd2 hln
      refine wg_name 4 sc_beginnings.nd rfl (.inl rfl) (.inl rfl) ?_
      -- if row[:size] not in found:
      refine w_cons (w_if ?_)
      refine wt_tnin hu ?_
      refine w_sl ?_
      refine w_name 2 rfl (.inl rfl) rfl ?_
      refine wo_none ?_
      refine wo_some ?_
      refine w_name 4 rfl (.inl rfl) rfl ?_
      refine ⟨_, rfl, ?_⟩
      refine sd_tup ?_
      rw [cut_map_to]
      refine w_name 1 rfl (.inl rfl) rfl ?_
      refine ⟨q, 0, _, rk (e.1.take (1 + size)), rfl, rk_eq _, rfl, ?_⟩
      rw [(bD_val hnd2 _).2]
      refine ⟨fun hb => ?_, fun hb => ?_⟩
      · -- found[row[:size]] = len(found)
        refine w_cons (w_tput hu ?_)
        refine w_callB (id := "len") T.b_len ?_
        refine wa_cons ?_
        refine w_name 1 rfl (.inl rfl) rfl ?_
        refine wa_nil ?_
        refine c_lenDT 0 rfl ?_
        rw [bD_len]
        refine w_name 1 rfl (.inl rfl) rfl ?_
        refine w_sl ?_
        refine w_name 2 rfl (.inl rfl) rfl ?_
        refine wo_none ?_
        refine wo_some ?_
        refine w_name 4 rfl (.inl rfl) rfl ?_
        refine ⟨_, rfl, ?_⟩
        refine sd_tup ?_
        rw [cut_map_to]
        have hnm : e.1.take (1 + size) ∉ B := by simpa using hb
        have hvn : valD (bD B) (rk (e.1.take (1 + size))) = none := by
          have := (bD_val hnd2 (e.1.take (1 + size))).2
          rw [decide_eq_false hnm] at this
          cases z : valD (bD B) (rk (e.1.take (1 + size))) with
          | none => rfl
          | some x => rw [z] at this; cases this
        refine ⟨q, 0, _, rk (e.1.take (1 + size)), rfl, rk_eq _, rfl, by rw [bD_len]; omega, ?_⟩
        rw [putD_new hvn, ← bD_app, ← ins_new hnm, ← hnx, List.set_cons_zero]
        refine w_nil ?_
        refine w_nil ?_
        exact ⟨[_], rfl, ⟨_, rfl, rfl⟩⟩
      · refine w_nil ?_
        refine w_nil ?_
        have hnm : e.1.take (1 + size) ∈ B := by simpa using hb
        rw [ins_old hnm] at hnx
        rw [← hnx]
        exact ⟨[_], rfl, ⟨_, rfl, rfl⟩⟩
    rintro vs μ' ⟨w4, rfl, rfl⟩
    refine wSs_rho (ρ' := [_, _, _, _, _]) rfl ?_
    have e2 : ((prefs e.1).take (e.1.length - 1)).foldl insL (begF (S.take ie)) = begF (S.take (ie + 1)) := by
      rw [List.take_of_length_le (l := prefs e.1) (by rw [prefs_len]; exact Nat.le_refl _), filter_next he, begF_snoc]
      rfl
    refine w_nil ?_
    exact ⟨[_, _, _], rfl, ⟨_, _, _, rfl, (by rw [e2])⟩⟩
  rintro vs μ' ⟨w2, w3, w4, rfl, rfl⟩
  refine wSs_rho (ρ' := [_, _, _, _, _]) rfl ?_
  -- return found
  refine w_cons (w_ret ?_)
  refine w_name 1 rfl (.inl rfl) rfl ?_
  rw [List.take_of_length_le (Nat.le_refl _)]
  exact k q
theorem ok_tree (B : Src K mg "tree_of" s_tree_of ["asks", "sheet"]) (T : Tx mg) (G_told_answers : KnG P w K mg base 1 "told_answers" ["sheet"] S_known) (G_beginnings : KnG P w K mg base 1 "beginnings" ["sheet"] S_beg) : KnG P w K mg base 2 "tree_of" ["asks", "sheet"] S_tree := by
  refine kn_ofG B sc_tree_of (fun ds μ Φ h => by obtain ⟨_, _, _, _, _, rfl, _⟩ := h; rfl) fun f cdv A outer s H E grd hr ds μ Φ h => ?_
  obtain ⟨S, asks, few, f, d, rfl, hlv, hS, hC, hl, ha, hB, k⟩ := h
  have hu := hu_of hr.r
  have hnd := beg_nodup S
  refine wSs_rho (ρ' := [_, _, _, _, _, _, _]) rfl ?_
  -- known = told_answers(sheet)
  refine w_cons (w_set 2 sc_tree_of.nd rfl (.inr rfl) (.inl rfl) ?_)
  refine w_callG G_told_answers hr ?_
  refine wa_cons ?_
  refine w_name 1 rfl (.inl rfl) rfl ?_
  refine wa_nil ?_
  refine ⟨S, few, f, d, rfl, hlv, hS, hC, hl, fun L q hL => ?_⟩
  refine wSs_fzD (i := 0) (j := 2) rfl rfl ?_
  -- rooms = beginnings(sheet)
  refine w_cons (w_set 3 sc_tree_of.nd rfl (.inr rfl) (.inl rfl) ?_)
  refine w_callG G_beginnings hr ?_
  refine wa_cons ?_
  refine w_name 1 rfl (.inl rfl) rfl ?_
  refine wa_nil ?_
  refine ⟨S, few, d, rfl, hlv, hS, hl, fun q2 => ?_⟩
  refine wSs_fzD (i := 0) (j := 3) rfl rfl ?_
  -- if len(rooms) > MOST_ROOMS:
  refine w_cons (w_if ?_)
  refine wt_cmp ?_
  refine w_callB (id := "len") T.b_len ?_
  refine wa_cons ?_
  refine w_name 3 rfl (.inr (.inl rfl)) rfl ?_
  refine wa_nil ?_
  refine c_lenZ ?_
  rw [List.length_map, bD_len]
  refine w_glob T.c_MOST_ROOMS ?_
  walk_at "Gt"
  refine ⟨_, rfl, ?_⟩
  refine ⟨fun hb => ?_, fun hb => ?_⟩
  · -- raise TooMany('too many rooms')
    refine w_cons (w_never ?_)
    have := of_decide_eq_true hb
    omega
  refine w_nil ?_
  -- found = []
  refine w_cons (w_set 4 sc_tree_of.nd rfl (.inl rfl) (.inl rfl) ?_)
  refine w_lstM ?_
  refine wa_nil ?_
  refine ⟨by simp, fun p => ?_⟩
  -- for row in rooms:
  refine w_cons (w_forV [5] ?_ PassesOwn.never rfl)
  refine wi_keysD ?_
  refine w_name 3 rfl (.inr (.inl rfl)) rfl ?_
  refine ⟨_, _, rfl, ?_⟩
  rw [bD_keys]
  refine ⟨_, fun i vs μ' => ∃  (w5 : Option D), vs = [w5] ∧ (p, .lst (((begF S).take i).map fun row => roomD (treeR f S asks row))) :: μ = μ', (by first | exact nats_len | exact nats2_len | exact enumD_len.trans (List.length_map _) | exact enumD_len | exact List.length_map _ | exact rfl | simp), ⟨_, rfl, rfl⟩, ?_, ?_⟩
  · rintro irow x vs μ' hx ⟨w5, rfl, rfl⟩
    refine wG_rho (ρ' := [_, _, _, _, _, _, _]) rfl ?_
    obtain ⟨row, hrow, rfl⟩ := map_get' hx
    refine wg_name 5 sc_tree_of.nd rfl (.inr rfl) (.inl rfl) ?_
    -- found.append(tuple([(rooms.get(row + (ask,)), known.get(row + (ask,))) for ask in range(asks)]))
    refine w_cons (w_expr ?_)
    refine w_append ?_
    refine w_name 4 rfl (.inl rfl) rfl ?_
    first | refine ⟨.inl ⟨rfl, 0, _, rfl⟩, ?_⟩ | refine ⟨.inl ⟨rfl, 1, _, rfl⟩, ?_⟩ | refine ⟨.inl ⟨rfl, 2, _, rfl⟩, ?_⟩ | refine ⟨.inl ⟨rfl, 3, _, rfl⟩, ?_⟩ | refine ⟨rfl, ?_⟩
    refine wa_cons ?_
    refine w_callTy (T := "tuple") T.b_tuple ?_
    refine wa_cons ?_
    -- comp [(rooms.get(row + (ask,)), known.get(row + (ask,))) for ask in range(asks)]
    refine w_fz0 (w_lcM (own := [("ask", 6)]) (.one 6) (by decide) rfl sc_tree_of.nd (blkOk_by (N := N_tree_of) (sc := defScope s_tree_of) (by decide +kernel)) (fun _ _ _ _ _ => pg_name (i := 6) sc_tree_of.nd rfl (by first | exact .inl rfl | exact .inr rfl)) ?_)
    refine lcW_of ?_
    refine wi_rngN T.b_range ?_
    refine w_name 0 rfl (.inl rfl) rfl ?_
    refine ⟨_, by rfl, by omega, ?_⟩
    refine lcq_map (List.range asks) _ ((fun a => cellD (idxO (begF S) (row ++ [a]), ansF f S (row ++ [a])))) rfl (by first | omega | (simp only [List.length_map, List.length_range]; omega) | (simp; omega) | simp) ?_ ?_
    · intro p_ask iask ask hask
      obtain ⟨hask, rfl⟩ := range_get hask
      refine ⟨[_, _, _, _, _, _, _], rfl, fun _ _ _ _ _ => ?_⟩
      refine w_tup ?_
      refine wa_cons ?_
      refine w_zget1 hu ?_
      refine w_name 3 rfl (.inr (.inl rfl)) rfl ?_
      refine ⟨_, _, rfl, ?_⟩
      refine w_bin ?_
      refine w_name 5 rfl (.inr (.inl rfl)) rfl ?_
      refine w_tup ?_
      refine wa_cons ?_
      refine w_name 6 rfl (.inl rfl) rfl ?_
      refine wa_nil ?_
      refine ⟨by simp, ?_⟩
      refine o_addT (by have := (beg_row hS row (List.mem_of_getElem? hrow)).1; rw [List.length_map]; show _ + 1 ≤ _; omega) ?_
      rw [row_snoc]
      refine ⟨rk (row ++ [ask]), rk_eq _, ?_⟩
      rw [bD_zval, (bD_val hnd _).1]
      refine wa_cons ?_
      refine w_zget1 hu ?_
      refine w_name 2 rfl (.inr (.inl rfl)) rfl ?_
      refine ⟨_, _, rfl, ?_⟩
      refine w_bin ?_
      refine w_name 5 rfl (.inr (.inl rfl)) rfl ?_
      refine w_tup ?_
      refine wa_cons ?_
      refine w_name 6 rfl (.inl rfl) rfl ?_
      refine wa_nil ?_
      refine ⟨by simp, ?_⟩
      refine o_addT (by have := (beg_row hS row (List.mem_of_getElem? hrow)).1; rw [List.length_map]; show _ + 1 ≤ _; omega) ?_
      rw [row_snoc]
      refine ⟨rk (row ++ [ask]), rk_eq _, ?_⟩
      have ea : (valD (kD' f L) (rk (row ++ [ask]))).getD .non = optD (ansF f S (row ++ [ask])) := by
        rw [kD_val]
        unfold ansF
        by_cases hm : tldB S (row ++ [ask]) = true
        · rw [if_pos ((hL _).mpr hm), if_pos hm]; rfl
        · rw [if_neg fun z => hm ((hL _).mp z), if_neg hm]; rfl
      rw [kD_zval, ea]
      refine wa_nil ?_
      refine ⟨by simp, ?_⟩
      exact ⟨rfl, rfl⟩
    intro p_c
    refine ⟨_, _, _, rfl, rfl, ?_⟩
    refine wa_nil ?_
    walk_at "c_tuple"
    refine wa_nil ?_
    refine m_append 0 rfl (by rw [List.length_map]; have := List.length_take_le' irow (begF S); omega) ?_
    refine w_nil ?_
    have et : roomD (treeR f S asks row) = .tup ((List.range asks).map fun a => cellD (idxO (begF S) (row ++ [a]), ansF f S (row ++ [a]))) := by unfold roomD treeR; rw [List.map_map]; rfl
    exact ⟨[_], rfl, ⟨_, rfl, (by rw [filter_next hrow, List.map_append, List.map_singleton, et]; rfl)⟩⟩
  rintro vs μ' ⟨w5, rfl, rfl⟩
  refine wSs_rho (ρ' := [_, _, _, _, _, _, _]) rfl ?_
  -- return (asks, tuple(found))
  refine w_cons (w_ret (w_dr ?_))
  refine w_tup ?_
  refine wa_cons ?_
  refine w_name 0 rfl (.inl rfl) rfl ?_
  refine wa_cons ?_
  refine w_callTy (T := "tuple") T.b_tuple ?_
  refine wa_cons ?_
  refine w_name 4 rfl (.inl rfl) rfl ?_
  refine wa_nil ?_
  walk_at "c_tuple"
  refine wa_nil ?_
  refine ⟨by simp, ?_⟩
  rw [List.take_of_length_le (Nat.le_refl _)]
  have e : D.tup [.int asks, .tup ((begF S).map fun row => roomD (treeR f S asks row))] = machD (treeM f S asks) := by
    unfold machD treeM
    rw [List.map_map]
    rfl
  rw [e]
  exact ⟨_, List.sublist_cons_self _ _, k⟩
theorem ok_begun (B : Src K mg "_law_begun" s__law_begun ["_law_sheet_here"]) (T : Tx mg)  : KnG P w K mg base 1 "_law_begun" ["_law_sheet_here"] S_begun := by
  refine kn_ofG B sc__law_begun (fun ds μ Φ h => by obtain ⟨_, _, rfl, _⟩ := h; rfl) fun f cdv A outer s H E grd hr ds μ Φ h => ?_
  obtain ⟨S, asks, rfl, hS, hl, k⟩ := h
  refine wSs_rho (ρ' := [_, _, _, _, _]) rfl ?_
  -- _law_found = [()]
  refine w_cons (w_set 1 sc__law_begun.nd rfl (.inl rfl) (.inl rfl) ?_)
  refine w_lstM ?_
  refine wa_cons ?_
  refine w_tup ?_
  refine wa_nil ?_
  refine ⟨by simp, ?_⟩
  refine wa_nil ?_
  refine ⟨by simp, fun p => ?_⟩
  -- for _law_row, _law_answers in _law_sheet_here:
  refine w_cons (w_forV [2, 3, 4] ?_ PassesOwn.never rfl)
  refine wi_lst ?_
  refine w_name 0 rfl (.inl rfl) rfl ?_
  refine ⟨_, rfl, ?_⟩
  refine ⟨_, fun i vs μ' => ∃  (w2 w3 w4 : Option D), vs = [w2, w3, w4] ∧ (p, .lst ((begF (S.take i)).map rowD)) :: μ = μ', (by first | exact nats_len | exact nats2_len | exact enumD_len.trans (List.length_map _) | exact enumD_len | exact List.length_map _ | exact rfl | simp), ⟨_, _, _, rfl, rfl⟩, ?_, ?_⟩
  · rintro ie x vs μ' hx ⟨w2, w3, w4, rfl, rfl⟩
    refine wG_rho (ρ' := [_, _, _, _, _]) rfl ?_
    obtain ⟨e, he, rfl⟩ := map_get' hx
    have ht := hS _ (List.mem_of_getElem? he)
    have htle := ht.le
    have hil := lt_of_get he
    have hcap := beg_cap (S := S.take ie) fun x hx => hS x (List.mem_of_mem_take hx)
    have hcl := List.length_take_le ie S
    first | refine wg_tup rfl rfl ?_ | refine wg_lst rfl rfl ?_
    refine wgs_cons ?_
    refine wg_name 2 sc__law_begun.nd rfl (.inl rfl) (.inl rfl) ?_
    refine wgs_cons ?_
    refine wg_name 3 sc__law_begun.nd rfl (.inl rfl) (.inl rfl) ?_
    refine wgs_nil ?_
    -- for _law_size in range(1, len(_law_row)):
    refine w_cons (w_forV [4] ?_ PassesOwn.never rfl)
    refine wi_rngN2 T.b_range ?_
    refine w_int ?_
    refine w_callB (id := "len") T.b_len ?_
    refine wa_cons ?_
    refine w_name 2 rfl (.inl rfl) rfl ?_
    refine wa_nil ?_
    walk_at "c_len"
    try rw [List.length_map]
    refine ⟨1, _, by rfl, by rfl, by omega, ?_⟩
    refine ⟨_, fun i vs μ' => ∃  (w4 : Option D), vs = [w4] ∧ (p, .lst ((((prefs e.1).take i).foldl insL (begF (S.take ie))).map rowD)) :: μ = μ', (by first | exact nats_len | exact nats2_len | exact enumD_len.trans (List.length_map _) | exact enumD_len | exact List.length_map _ | exact rfl | simp), ⟨_, rfl, rfl⟩, ?_, ?_⟩
    · rintro size x vs μ' hx ⟨w4, rfl, rfl⟩
      refine wG_rho (ρ' := [_, _, _, _, _]) rfl ?_
      obtain ⟨hsize, rfl⟩ := nats2_get hx
      have hnx := begP_next (B := begF (S.take ie)) (row := e.1) hsize
      have hln := (fold_len ((prefs e.1).take size) (begF (S.take ie))).2
      have hlt := List.length_take_le size (prefs e.1)
      generalize ((prefs e.1).take size).foldl insL (begF (S.take ie)) = B at hnx hln
      refine wg_name 4 sc__law_begun.nd rfl (.inl rfl) (.inl rfl) ?_
      -- if _law_row[:_law_size] not in _law_found:
      refine w_cons (w_if ?_)
      refine wt_cmp ?_
      refine w_sl ?_
      refine w_name 2 rfl (.inl rfl) rfl ?_
      refine wo_none ?_
      refine wo_some ?_
      refine w_name 4 rfl (.inl rfl) rfl ?_
      refine ⟨_, rfl, ?_⟩
      refine sd_tup ?_
      rw [cut_map_to]
      refine w_name 1 rfl (.inl rfl) rfl ?_
      refine o_ninPY 0 rfl hr.un65 (ly_rw _) (Lys.map fun r _ => ly_rw r) ?_
      rw [rows_any]
      refine ⟨_, rfl, ?_⟩
      refine ⟨fun hb => ?_, fun hb => ?_⟩
      · -- _law_found.append(_law_row[:_law_size])
        refine w_cons (w_expr ?_)
        refine w_append ?_
        refine w_name 1 rfl (.inl rfl) rfl ?_
        first | refine ⟨.inl ⟨rfl, 0, _, rfl⟩, ?_⟩ | refine ⟨.inl ⟨rfl, 1, _, rfl⟩, ?_⟩ | refine ⟨.inl ⟨rfl, 2, _, rfl⟩, ?_⟩ | refine ⟨.inl ⟨rfl, 3, _, rfl⟩, ?_⟩ | refine ⟨rfl, ?_⟩
        refine wa_cons ?_
        refine w_sl ?_
        refine w_name 2 rfl (.inl rfl) rfl ?_
        refine wo_none ?_
        refine wo_some ?_
        refine w_name 4 rfl (.inl rfl) rfl ?_
        refine ⟨_, rfl, ?_⟩
        refine sd_tup ?_
        rw [cut_map_to]
        refine wa_nil ?_
        have hnm : e.1.take (1 + size) ∉ B := by simpa using hb
        refine m_append 0 rfl (by rw [List.length_map]; omega) ?_
        refine w_nil ?_
        refine w_nil ?_
        exact ⟨[_], rfl, ⟨_, rfl, (by rw [hnx, ins_new hnm, List.map_append]; rfl)⟩⟩
      · refine w_nil ?_
        refine w_nil ?_
        have hnm : e.1.take (1 + size) ∈ B := by simpa using hb
        exact ⟨[_], rfl, ⟨_, rfl, (by rw [hnx, ins_old hnm])⟩⟩
    rintro vs μ' ⟨w4, rfl, rfl⟩
    refine wSs_rho (ρ' := [_, _, _, _, _]) rfl ?_
    have e2 : ((prefs e.1).take (e.1.length - 1)).foldl insL (begF (S.take ie)) = begF (S.take (ie + 1)) := by
      rw [List.take_of_length_le (l := prefs e.1) (by rw [prefs_len]; exact Nat.le_refl _), filter_next he, begF_snoc]
      rfl
    refine w_nil ?_
    exact ⟨[_, _, _], rfl, ⟨_, _, _, rfl, (by rw [e2])⟩⟩
  rintro vs μ' ⟨w2, w3, w4, rfl, rfl⟩
  refine wSs_rho (ρ' := [_, _, _, _, _]) rfl ?_
  -- return _law_found
  refine w_cons (w_ret (w_fz0 ?_))
  refine w_name 1 rfl (.inl rfl) rfl ?_
  rw [List.take_of_length_le (Nat.le_refl _)]
  exact ⟨_, _, _, rfl, rfl, k⟩
end
end L37

namespace L37
open PySem PySem.Spec L2 Oc
open Evl (Ex)
local macro_rules | `(tactic| walk_at "s") => `(tactic| first | assumption | omega | decide | (simp only [] at *; omega))
local macro_rules | `(tactic| walk_at "Add") => `(tactic| first | refine o_addN ?_ | refine o_add ?_ | refine o_addS (by walk_at "s") ?_ | refine o_addT (by walk_at "s") ?_ | refine o_addL (by walk_at "s") ?_)
local macro_rules | `(tactic| walk_at "Sub") => `(tactic| refine o_sub ?_)
local macro_rules | `(tactic| walk_at "Mult") => `(tactic| refine o_mul (by walk_at "s") ?_)
local macro_rules | `(tactic| walk_at "Mod") => `(tactic| first | refine o_modN (by walk_at "s") ?_ | refine o_mod (by walk_at "s") ?_)
local macro_rules | `(tactic| walk_at "FloorDiv") => `(tactic| first | refine o_divN (by walk_at "s") ?_ | refine o_div (by walk_at "s") ?_)
local macro_rules | `(tactic| walk_at "Pow") => `(tactic| refine o_pow (by walk_at "s") ?_)
local macro_rules | `(tactic| walk_at "LShift") => `(tactic| refine o_shl (by walk_at "s") ?_)
local macro_rules | `(tactic| walk_at "RShift") => `(tactic| refine o_shr (by walk_at "s") ?_)
local macro_rules | `(tactic| walk_at "BitAnd") => `(tactic| refine o_band ?_)
local macro_rules | `(tactic| walk_at "BitXor") => `(tactic| refine o_bxor ?_)
local macro_rules | `(tactic| walk_at "BitOr") => `(tactic| refine o_bor ?_)
local macro_rules | `(tactic| walk_at "Lt") => `(tactic| refine o_lt ?_)
local macro_rules | `(tactic| walk_at "LtE") => `(tactic| refine o_le ?_)
local macro_rules | `(tactic| walk_at "Gt") => `(tactic| refine o_gt ?_)
local macro_rules | `(tactic| walk_at "GtE") => `(tactic| refine o_ge ?_)
local macro_rules | `(tactic| walk_at "Eq") => `(tactic| refine o_eq (by rfl) ?_)
local macro_rules | `(tactic| walk_at "NotEq") => `(tactic| refine o_ne (by rfl) ?_)
local macro_rules | `(tactic| walk_at "Is") => `(tactic| refine o_isN ?_)
local macro_rules | `(tactic| walk_at "IsNot") => `(tactic| refine o_notN ?_)
local macro_rules | `(tactic| walk_at "In") => `(tactic| refine o_in (by first | exact .inl rfl | exact .inr (.inl rfl) | exact .inr (.inr rfl)) (by rfl) (by rfl) ?_)
local macro_rules | `(tactic| walk_at "NotIn") => `(tactic| refine o_nin (by first | exact .inl rfl | exact .inr (.inl rfl) | exact .inr (.inr rfl)) (by rfl) (by rfl) ?_)
local macro_rules | `(tactic| walk_at "c_abs") => `(tactic| refine c_abs ?_)
local macro_rules | `(tactic| walk_at "c_len") => `(tactic| first | refine c_lenL ?_ | refine c_lenC ?_ | refine c_lenT ?_ | refine c_lenS (by walk_at "s") ?_ | refine c_lenP 0 (by first | assumption | rfl) ?_)
local macro_rules | `(tactic| walk_at "c_str") => `(tactic| refine c_str (by walk_at "s") ?_)
local macro_rules | `(tactic| walk_at "c_isinstance") => `(tactic| refine c_isi rfl (by rfl) ?_)
local macro_rules | `(tactic| walk_at "sl") => `(tactic| first | refine sd_tup ?_ | refine sd_lst ?_)
local macro_rules | `(tactic| walk_at "c_tuple") => `(tactic| first | refine c_tupL ?_ | refine c_tupP 0 (by first | assumption | rfl) ?_ | refine c_tupT ?_)
local macro_rules | `(tactic| walk_at "c_int") => `(tactic| first | refine c_intB ?_)
local macro_rules | `(tactic| walk_at "USub") => `(tactic| refine u_neg ?_)
local macro_rules | `(tactic| walk_at "pen") => `(tactic| first | assumption | exact get_set (by assumption) | exact get_set (get_set (by assumption)) | exact get_here | (apply get_cons; walk_at "pen") | (apply get_app; walk_at "pen"))
local macro_rules | `(tactic| walk_at "mu") => `(tactic| simp only [List.set_cons_succ, List.set_set, List.set_cons_zero])
/-! ### told rows that clash -/
def toldAt (t : Told) (h : List Nat) : Option Nat := if tldT t h then t.2.getD (h.length - 1) none else none
/-- the first answer told at a beginning -/
def fU (S : List Told) (h : List Nat) : Nat := (S.findSome? fun t => toldAt t h).getD 0
def ClashAt (S : List Told) (i p : Nat) : Prop := ∃ t a, S[i]? = some t ∧ t.2[p]? = some (some a) ∧ ∃ j t' b, j < i ∧ S[j]? = some t' ∧ t'.2[p]? = some (some b) ∧ t'.1.take (p + 1) = t.1.take (p + 1) ∧ b ≠ a
/-- the clash that is due, if there is one -/
def DueC (S : List Told) (o : Option (Nat × Nat)) : Prop := (o = none ∧ ∀ i p, ¬ ClashAt S i p) ∨ ∃ i p, o = some (i, p) ∧ ClashAt S i p ∧ ∀ j q, (j < i ∨ (j = i ∧ q < p)) → ¬ ClashAt S j q
theorem due_uniq {S : List Told} {o o' : Option (Nat × Nat)} (h : DueC S o) (h' : DueC S o') : o = o' := by
  rcases h with ⟨rfl, h⟩ | ⟨i, p, rfl, h1, h2⟩ <;> rcases h' with ⟨rfl, h'⟩ | ⟨i', p', rfl, h1', h2'⟩
  · rfl
  · exact absurd h1' (h _ _)
  · exact absurd h1 (h' _ _)
  · have e1 : ¬ (i < i' ∨ (i = i' ∧ p < p')) := fun z => h2' _ _ z h1
    have e2 : ¬ (i' < i ∨ (i' = i ∧ p' < p)) := fun z => h2 _ _ z h1'
    have e3 : i = i' := by omega
    have e4 : p = p' := by omega
    rw [e3, e4]
theorem toldAt_at {t : Told} {p : Nat} (hp : p < t.1.length) : toldAt t (t.1.take (p + 1)) = t.2.getD p none := by
  unfold toldAt
  rw [tld_at hp]
  have e : (t.1.take (p + 1)).length - 1 = p := by rw [List.length_take]; omega
  rw [e]
  cases t.2.getD p none <;> rfl
theorem toldAt_ex {asks : Nat} {t : Told} (ht : TOk asks t) {h : List Nat} {b : Nat} (e : toldAt t h = some b) : ∃ p, p < t.1.length ∧ h = t.1.take (p + 1) ∧ t.2[p]? = some (some b) := by
  unfold toldAt at e
  split at e
  · rename_i h1
    obtain ⟨p, hp, h2, rfl⟩ := (tld_ex ht h).mp h1
    have hp' : p < t.1.length := by rw [← ht.len]; exact hp
    have e1 : (t.1.take (p + 1)).length - 1 = p := by rw [List.length_take]; omega
    rw [e1, List.getD_eq_getElem?_getD, List.getElem?_eq_getElem hp] at e
    refine ⟨p, hp', rfl, ?_⟩
    rw [List.getElem?_eq_getElem hp]
    exact congrArg some e
  · cases e
theorem toldAt_no {t : Told} {h : List Nat} (e : tldT t h = false) : toldAt t h = none := by unfold toldAt; rw [e]; rfl
theorem take_ix {S : List Told} {i j : Nat} {t : Told} (h : (S.take i)[j]? = some t) : j < i ∧ S[j]? = some t := by
  have hl := lt_of_get h
  rw [List.length_take] at hl
  exact ⟨by omega, by rwa [List.getElem?_take_of_lt (by omega)] at h⟩
theorem fU_con {asks i : Nat} {S : List Told} (hS : SOk asks S) (h : ∀ j p, j < i → ¬ ClashAt S j p) : Con (fU S) (S.take i) := fun t htm p a e => by
  obtain ⟨j, hj0, ej⟩ := List.mem_iff_getElem.mp htm
  obtain ⟨hj, hjS⟩ := take_ix (S := S) (i := i) (j := j) (t := t) (by rw [List.getElem?_eq_getElem hj0, ej])
  have ht := hS _ (List.mem_of_getElem? hjS)
  have hp : p < t.1.length := by rw [← ht.len]; exact lt_of_get e
  have e1 : toldAt t (t.1.take (p + 1)) = some a := by
    rw [toldAt_at hp, List.getD_eq_getElem?_getD, e]
    rfl
  unfold fU
  cases ef : S.findSome? (fun t' => toldAt t' (t.1.take (p + 1))) with
  | none =>
    have := List.findSome?_eq_none_iff.mp ef t (List.mem_of_getElem? hjS)
    rw [e1] at this
    cases this
  | some b =>
    show b = a
    obtain ⟨l1, t', l2, e2, e3, e4⟩ := List.findSome?_eq_some_iff.mp ef
    have hl1 : S[l1.length]? = some t' := by rw [e2, List.getElem?_append_right (Nat.le_refl _), Nat.sub_self]; rfl
    by_cases hlt : j < l1.length
    · have : t ∈ l1 := by
        have e5 : l1[j]? = some t := by rw [e2, List.getElem?_append_left hlt] at hjS; exact hjS
        exact List.mem_of_getElem? e5
      have := e4 t this
      rw [e1] at this
      cases this
    · by_cases heq : j = l1.length
      · rw [heq, hl1] at hjS
        cases hjS
        rw [e1] at e3
        cases e3
        rfl
      · refine Classical.byContradiction fun hne => h j p hj ⟨t, a, hjS, e, l1.length, t', b, by omega, hl1, ?_, ?_, hne⟩
        all_goals
          obtain ⟨p', hp', e6, e7⟩ := toldAt_ex (hS _ (List.mem_of_getElem? hl1)) e3
          have e8 : p' = p := by
            have := congrArg List.length e6
            rw [List.length_take, List.length_take] at this
            omega
          subst e8
        · exact e7
        · exact e6.symm
theorem fU_new {S : List Told} {t : Told} {i a : Nat} {h : List Nat} (e : S[i]? = some t) (hn : tldB (S.take i) h = false) (ea : toldAt t h = some a) : fU S h = a := by
  have hl := lt_of_get e
  have e1 : S = S.take i ++ t :: S.drop (i + 1) := by
    rw [List.getElem?_eq_getElem hl] at e
    cases e
    rw [List.getElem_cons_drop hl, List.take_append_drop]
  have e2 : (S.take i).findSome? (fun t' => toldAt t' h) = none := List.findSome?_eq_none_iff.mpr fun x hx => toldAt_no (by
    cases e9 : tldT x h with
    | false => rfl
    | true =>
      have : tldB (S.take i) h = true := List.any_eq_true.mpr ⟨x, hx, e9⟩
      rw [hn] at this
      cases this)
  unfold fU
  rw [e1, List.findSome?_append, e2, List.findSome?_cons, ea]
  rfl
theorem clash_no {S : List Told} {asks i p : Nat} {t : Told} (hS : SOk asks S) (e : S[i]? = some t) (hn : tldB (S.take i) (t.1.take (p + 1)) = false) : ¬ ClashAt S i p := by
  rintro ⟨t1, a, e1, e2, j, t', b, hj, e3, e4, e5, _⟩
  rw [e] at e1
  cases e1
  have hjm : t' ∈ S.take i := List.mem_of_getElem? (i := j) (by rw [List.getElem?_take_of_lt hj]; exact e3)
  have ht' := hS _ (List.mem_of_getElem? e3)
  have : tldB (S.take i) (t.1.take (p + 1)) = true := List.any_eq_true.mpr ⟨t', hjm, (tld_ex ht' _).mpr ⟨p, lt_of_get e4, by rw [List.getD_eq_getElem?_getD, e4]; rfl, e5.symm⟩⟩
  rw [hn] at this
  cases this
theorem clash_eq {S : List Told} {i p a : Nat} {t : Told} (hC : Con (fU S) (S.take i)) (e : S[i]? = some t) (ea : t.2[p]? = some (some a)) (he : fU S (t.1.take (p + 1)) = a) : ¬ ClashAt S i p := by
  rintro ⟨t1, a1, e1, e2, j, t', b, hj, e3, e4, e5, hne⟩
  rw [e] at e1
  cases e1
  rw [ea] at e2
  cases e2
  have hjm : t' ∈ S.take i := List.mem_of_getElem? (i := j) (by rw [List.getElem?_take_of_lt hj]; exact e3)
  have := hC t' hjm p b e4
  rw [e5, he] at this
  exact hne this.symm
theorem clash_yes {S : List Told} {asks i p a : Nat} {t : Told} (hS : SOk asks S) (hC : Con (fU S) (S.take i)) (e : S[i]? = some t) (ea : t.2[p]? = some (some a)) (ht : tldB (S.take i) (t.1.take (p + 1)) = true) (hp : p < t.1.length) (he : fU S (t.1.take (p + 1)) ≠ a) : ClashAt S i p := by
  obtain ⟨t', hm, h1⟩ := List.any_eq_true.mp ht
  obtain ⟨j, hj0, ej⟩ := List.mem_iff_getElem.mp hm
  obtain ⟨hj, hjS⟩ := take_ix (S := S) (i := i) (j := j) (t := t') (by rw [List.getElem?_eq_getElem hj0, ej])
  have ht' := hS _ (List.mem_of_getElem? hjS)
  obtain ⟨p', hp', h2, h3⟩ := (tld_ex ht' _).mp h1
  have e8 : p' = p := by
    have := congrArg List.length h3
    rw [List.length_take, List.length_take] at this
    have := ht'.len
    omega
  subst e8
  obtain ⟨b, hb⟩ := Option.isSome_iff_exists.mp h2
  rw [List.getD_eq_getElem?_getD, List.getElem?_eq_getElem hp'] at hb
  have hb' : t'.2[p']? = some (some b) := by rw [List.getElem?_eq_getElem hp']; exact congrArg some hb
  refine ⟨t, a, e, ea, j, t', b, hj, hjS, hb', h3.symm, fun z => he ?_⟩
  rw [h3, hC t' hm p' b hb', z]
theorem clash_none {S : List Told} {i p : Nat} {t : Told} (e : S[i]? = some t) (ea : t.2[p]? = some none) : ¬ ClashAt S i p := by
  rintro ⟨t1, a1, e1, e2, _⟩
  rw [e] at e1
  cases e1
  rw [ea] at e2
  cases e2
theorem clash_out {S : List Told} {i p : Nat} {t : Told} (e : S[i]? = some t) (hp : t.2.length ≤ p) : ¬ ClashAt S i p := by
  rintro ⟨t1, a1, e1, e2, _⟩
  rw [e] at e1
  cases e1
  rw [List.getElem?_eq_none hp] at e2
  cases e2
theorem clash_row {S : List Told} {i p : Nat} (hi : S.length ≤ i) : ¬ ClashAt S i p := by
  rintro ⟨t1, a1, e1, _⟩
  rw [List.getElem?_eq_none hi] at e1
  cases e1
theorem eqf_opt (v a : Nat) : D.eqf (.int v) (optD (some a)) = decide (v = a) := by
  show ((v : Int) == (a : Int)) = _
  by_cases h : v = a
  · rw [h, decide_eq_true rfl]; exact beq_self_eq_true _
  · rw [decide_eq_false h, beq_eq_false_iff_ne]; omega
def S_knownX (cs : Cs) : FX := fun ds μ Φ Ψ => ∃ (S : List Told) (asks : Nat) (d : D) (o : Option (Nat × Nat)), ds = [d] ∧ LV d μ (S.map toldD) ∧ SOk asks S ∧ S.length ≤ 1000 ∧ DueC S o ∧
  (o = none → ∀ (L : List (List Nat)) (q : Addr), (∀ h, h ∈ L ↔ tldB S h = true) → Φ (.ptr q) ((q, .dt (kD' (fU S) L)) :: μ)) ∧ (∀ i p : Nat, o = some (i, p) → Ψ cs.Clash ["place", "row"] [.int p, .int i] μ)
def S_treeX (cs : Cs) : FX := fun ds μ Φ Ψ => ∃ (S : List Told) (asks few : Nat) (d : D) (o : Option (Nat × Nat)), ds = [.int asks, d] ∧ LV d μ (S.map toldD) ∧ SOk few S ∧ S.length ≤ 1000 ∧ asks ≤ 4 ∧ DueC S o ∧
  (o = none → (begF S).length ≤ 24 → Φ (machD (treeM (fU S) S asks)) μ) ∧ (o = none → 24 < (begF S).length → Ψ cs.TooMany [] [] μ) ∧ (∀ i p : Nat, o = some (i, p) → Ψ cs.Clash ["place", "row"] [.int p, .int i] μ)
section
variable {P : Program} {w : World} {K : PySem.W.Frag} {mg : Str → Option Value} {base : Heap}
theorem ok_knownX (B : Src K mg "told_answers" s_told_answers ["sheet"]) (T : Tx mg) {cs : Cs} (TC : Tc K mg cs)  : KnX P w K mg base 3 "told_answers" ["sheet"] (S_knownX cs) := by
  refine kn_ofX B sc_told_answers (fun ds μ Φ Ψ h => by obtain ⟨_, _, _, _, rfl, _⟩ := h; rfl) fun f cdv A outer s H E grd hr ds μ Φ Ψ h tk po => ?_
  obtain ⟨S, asks, d, o, rfl, hlv, hS, hl, hD, k, kx⟩ := h
  have hu := hu_of hr.r
  refine wSs_rho (ρ' := [_, _, _, _, _, _, _, _, _]) rfl ?_
  -- known = {}
  refine w_cons (w_set 1 sc_told_answers.nd rfl (.inl rfl) (.inl rfl) ?_)
  refine w_dnewT fun q => ?_
  -- for number, told_row in enumerate(sheet):
  refine w_cons (w_forPV [2, 3, 4, 5, 6, 7, 8] ?_ po rfl)
  refine wi_enumLV T.b_enumerate ?_
  refine w_name 0 rfl (.inl rfl) rfl ?_
  refine ⟨_, hlv.cons _, ?_⟩
  refine ⟨_, fun i vs μ' => ∃ (L : List (List Nat)) (w2 w3 w4 w5 w6 w7 w8 : Option D), (∀ h, h ∈ L ↔ tldB (S.take i) h = true) ∧ (L.length ≤ 12 * i) ∧ (∀ j p9, j < i → ¬ ClashAt S j p9) ∧ vs = [w2, w3, w4, w5, w6, w7, w8] ∧ (q, .dt (kD' (fU S) L)) :: μ = μ', (by first | exact nats_len | exact nats2_len | exact enumD_len.trans (List.length_map _) | exact enumD_len | exact List.length_map _ | exact rfl | simp), ⟨[], _, _, _, _, _, _, _, (fun h => ⟨fun z => (nomatch z), fun z => (by cases z)⟩), (Nat.zero_le _), (fun j p9 h => absurd h (Nat.not_lt_zero _)), rfl, rfl⟩, (fun _ _ _ h => by obtain ⟨L, _, _, _, _, _, _, _, hL, hLl, hnc, rfl, rfl⟩ := h; exact hlv.cons _), ?_, ?_⟩
  · rintro number x vs μ' hx ⟨L, w2, w3, w4, w5, w6, w7, w8, hL, hLl, hnc, rfl, rfl⟩
    refine wG_rho (ρ' := [_, _, _, _, _, _, _, _, _]) rfl ?_
    obtain ⟨told_row, htold_row, rfl⟩ := enum_get' hx
    have htm := List.mem_of_getElem? htold_row
    have ht := hS _ htm
    have hil := lt_of_get htold_row
    have htl := ht.len
    have htle := ht.le
    have hC := fU_con hS hnc
    first | refine wg_tup rfl rfl ?_ | refine wg_lst rfl rfl ?_
    refine wgs_cons ?_
    refine wg_name 2 sc_told_answers.nd rfl (.inl rfl) (.inl rfl) ?_
    refine wgs_cons ?_
    refine wg_name 3 sc_told_answers.nd rfl (.inl rfl) (.inl rfl) ?_
    refine wgs_nil ?_
    -- row, answers = told_row
    refine w_cons (w_asg ?_)
    refine w_name 3 rfl (.inl rfl) rfl ?_
    first | refine wg_tup rfl rfl ?_ | refine wg_lst rfl rfl ?_
    refine wgs_cons ?_
    refine wg_name 4 sc_told_answers.nd rfl (.inl rfl) (.inl rfl) ?_
    refine wgs_cons ?_
    refine wg_name 5 sc_told_answers.nd rfl (.inl rfl) (.inl rfl) ?_
    refine wgs_nil ?_
    -- for place, answer in enumerate(answers):
    refine w_cons (w_forV [6, 7, 8] ?_ po rfl)
    refine wi_enumT T.b_enumerate ?_
    refine w_name 5 rfl (.inl rfl) rfl ?_
    refine ⟨_, rfl, ?_⟩
    refine ⟨_, fun i vs μ' => ∃ (L2 : List (List Nat)) (w6 w7 w8 : Option D), (∀ h, h ∈ L2 ↔ (tldB (S.take number) h = true ∨ ∃ p, p < i ∧ ((told_row.2.getD p none).isSome = true ∧ h = told_row.1.take (p + 1)))) ∧ (L2.length ≤ 12 * number + i) ∧ (∀ p9, p9 < i → ¬ ClashAt S number p9) ∧ vs = [w6, w7, w8] ∧ (q, .dt (kD' (fU S) L2)) :: μ = μ', (by first | exact nats_len | exact nats2_len | exact enumD_len.trans (List.length_map _) | exact enumD_len | exact List.length_map _ | exact rfl | simp), ⟨L, _, _, _, (fun h => (hL h).trans ⟨.inl, fun z => z.elim id fun z => absurd z none_lt⟩), (by omega), (fun p9 h => absurd h (Nat.not_lt_zero _)), rfl, rfl⟩, ?_, ?_⟩
    · rintro place x vs μ' hx ⟨L2, w6, w7, w8, h2, hl2, hn2, rfl, rfl⟩
      refine wG_rho (ρ' := [_, _, _, _, _, _, _, _, _]) rfl ?_
      obtain ⟨answer, hanswer, rfl⟩ := enum_get' hx
      have hpl := lt_of_get hanswer
      have hgd : told_row.2.getD place none = answer := by rw [List.getD_eq_getElem?_getD, hanswer]; rfl
      have hin : told_row.1.take (place + 1) ∈ L2 ↔ tldB (S.take number) (told_row.1.take (place + 1)) = true := by
        rw [h2]
        refine ⟨fun z => z.elim id fun ⟨p9, hp9, _, e9⟩ => ?_, .inl⟩
        have := congrArg List.length e9
        rw [List.length_take, List.length_take] at this
        omega
      first | refine wg_tup rfl rfl ?_ | refine wg_lst rfl rfl ?_
      refine wgs_cons ?_
      refine wg_name 6 sc_told_answers.nd rfl (.inl rfl) (.inl rfl) ?_
      refine wgs_cons ?_
      refine wg_name 7 sc_told_answers.nd rfl (.inl rfl) (.inl rfl) ?_
      refine wgs_nil ?_
      -- here = row[:place + 1]
      refine w_cons (w_set 8 sc_told_answers.nd rfl (.inl rfl) (.inl rfl) ?_)
      refine w_sl ?_
      refine w_name 4 rfl (.inl rfl) rfl ?_
      refine wo_none ?_
      refine wo_some ?_
      refine w_bin ?_
      refine w_name 6 rfl (.inl rfl) rfl ?_
      refine w_int ?_
      first | refine o_addN (b := 1) ?_ | walk_at "Add"
      refine ⟨_, rfl, ?_⟩
      refine sd_tup ?_
      rw [cut_map_to]
      -- if answer is not None:
      refine w_cons (w_if ?_)
      refine wt_cmp ?_
      refine w_name 7 rfl (.inl rfl) rfl ?_
      refine w_non ?_
      walk_at "IsNot"
      refine ⟨_, rfl, ?_⟩
      refine ⟨fun hb => ?_, fun hb => ?_⟩
      · -- if known.get(here, answer) != answer:
        refine w_cons (w_if ?_)
        refine wt_cmp ?_
        refine w_tget2 hu ?_
        refine w_name 1 rfl (.inl rfl) rfl ?_
        refine ⟨q, rfl, ⟨0, _, rfl⟩, ?_⟩
        refine w_name 8 rfl (.inl rfl) rfl ?_
        refine w_name 7 rfl (.inl rfl) rfl ?_
        obtain ⟨a, rfl⟩ : ∃ a, answer = some a := by cases answer with | none => cases hb | some a => exact ⟨a, rfl⟩
        refine ⟨0, _, rk (told_row.1.take (place + 1)), rk_eq _, rfl, ?_⟩
        obtain ⟨v, hv⟩ : ∃ v : Nat, v = if told_row.1.take (place + 1) ∈ L2 then fU S (told_row.1.take (place + 1)) else a := ⟨_, rfl⟩
        rw [show (valD (kD' (fU S) L2) (rk (told_row.1.take (place + 1)))).getD (optD (some a)) = .int (v : Nat) from (kD_val (fU S) L2 (told_row.1.take (place + 1)) (.int (a : Nat))).trans (by rw [hv]; split <;> rfl)]
        refine w_name 7 rfl (.inl rfl) rfl ?_
        refine o_ne (by rfl) ?_
        refine ⟨_, rfl, ?_⟩
        refine ⟨fun hb1 => wSs_sub (List.sublist_cons_self _ _) ?_, fun hb1 => ?_⟩
        · -- raise Clash(number, place)
          refine w_cons (w_raiseI (init_Clash TC) tk hr TC.g_Clash ?_)
          refine wa_cons ?_
          refine w_name 2 rfl (.inl rfl) rfl ?_
          refine wa_cons ?_
          refine w_name 6 rfl (.inl rfl) rfl ?_
          refine wa_nil ?_
          have hva : v ≠ a := fun z => by rw [eqf_opt, z] at hb1; simp at hb1
          have hmm : told_row.1.take (place + 1) ∈ L2 := Classical.byContradiction fun z => hva (by rw [hv, if_neg z])
          have hcl := clash_yes hS hC htold_row hanswer (hin.mp hmm) (by omega) (fun z => hva (by rw [hv, if_pos hmm, z]))
          refine ⟨rfl, kx number place (due_uniq hD (.inr ⟨number, place, rfl, hcl, fun j p9 hj => ?_⟩))⟩
          rcases hj with hj | ⟨rfl, hj⟩
          · exact hnc j p9 hj
          · exact hn2 p9 hj
        refine w_nil ?_
        -- known[here] = answer
        refine w_cons (w_tput hu ?_)
        refine w_name 7 rfl (.inl rfl) rfl ?_
        refine w_name 1 rfl (.inl rfl) rfl ?_
        refine w_name 8 rfl (.inl rfl) rfl ?_
        have hva : v = a := by
          rw [eqf_opt] at hb1
          simpa using hb1
        have hfa : fU S (told_row.1.take (place + 1)) = a := by
          by_cases hmm : told_row.1.take (place + 1) ∈ L2
          · rw [if_pos hmm] at hv
            rw [← hv]
            exact hva
          · refine fU_new htold_row (by rw [← Bool.not_eq_true]; exact fun z => hmm (hin.mpr z)) ?_
            rw [toldAt_at (by omega), hgd]
        refine ⟨q, 0, _, rk (told_row.1.take (place + 1)), rfl, rk_eq _, rfl, by unfold kD'; rw [List.length_map]; omega, ?_⟩
        have hput := kD_put (fU S) L2 (told_row.1.take (place + 1))
        rw [hfa] at hput
        rw [show putD (kD' (fU S) L2) (rk (told_row.1.take (place + 1))) (optD (some a)) = _ from hput, List.set_cons_zero]
        have hnp := clash_eq hC htold_row hanswer hfa
        refine w_nil ?_
        refine w_nil ?_
        exact ⟨[_, _, _], rfl, ⟨insL L2 (told_row.1.take (place + 1)), _, _, _, (fun h => by rw [ins_mem, h2, lt_next, or_assoc, hgd]; exact ⟨fun z => z.elim .inl fun z => .inr (z.imp id fun e => ⟨rfl, e⟩), fun z => z.elim .inl fun z => .inr (z.imp id fun e => e.2)⟩), (by have := (ins_len L2 (told_row.1.take (place + 1))).2; omega), (fun p9 h => by rcases Nat.lt_succ_iff_lt_or_eq.mp h with h | rfl; exact hn2 p9 h; exact hnp), rfl, rfl⟩⟩
      · refine w_nil ?_
        refine w_nil ?_
        obtain rfl : answer = none := by cases answer with | none => rfl | some a => cases hb
        have hnp := clash_none htold_row hanswer
        exact ⟨[_, _, _], rfl, ⟨L2, _, _, _, (fun h => by rw [h2, lt_next, hgd]; exact ⟨fun z => z.imp id .inl, fun z => z.imp id fun z => z.elim id fun e => (by cases e.1)⟩), (by omega), (fun p9 h => by rcases Nat.lt_succ_iff_lt_or_eq.mp h with h | rfl; exact hn2 p9 h; exact hnp), rfl, rfl⟩⟩
    rintro vs μ' ⟨L2, w6, w7, w8, h2, hl2, hn2, rfl, rfl⟩
    refine wSs_rho (ρ' := [_, _, _, _, _, _, _, _, _]) rfl ?_
    refine w_nil ?_
    exact ⟨[_, _, _, _, _, _, _], rfl, ⟨L2, _, _, _, _, _, _, _, (fun h => by rw [h2, filter_next htold_row, tldB_snoc, Bool.or_eq_true, tld_ex ht]), (by omega), (fun j p9 h => by rcases Nat.lt_succ_iff_lt_or_eq.mp h with h | rfl; exact hnc j p9 h; exact (Nat.lt_or_ge p9 told_row.2.length).elim (hn2 p9) (clash_out htold_row)), rfl, rfl⟩⟩
  rintro vs μ' ⟨L, w2, w3, w4, w5, w6, w7, w8, hL, hLl, hnc, rfl, rfl⟩
  refine wSs_rho (ρ' := [_, _, _, _, _, _, _, _, _]) rfl ?_
  -- return known
  refine w_cons (w_ret ?_)
  refine w_name 1 rfl (.inl rfl) rfl ?_
  rw [List.take_of_length_le (Nat.le_refl _)] at hL
  have hnone : o = none := due_uniq hD (.inl ⟨rfl, fun i p9 => (Nat.lt_or_ge i S.length).elim (hnc i p9) clash_row⟩)
  exact k hnone L q hL
theorem ok_treeX (B : Src K mg "tree_of" s_tree_of ["asks", "sheet"]) (T : Tx mg) {cs : Cs} (TC : Tc K mg cs) (G_told_answers : KnX P w K mg base 3 "told_answers" ["sheet"] (S_knownX cs)) (G_beginnings : KnG P w K mg base 1 "beginnings" ["sheet"] S_beg) : KnX P w K mg base 4 "tree_of" ["asks", "sheet"] (S_treeX cs) := by
  refine kn_ofX B sc_tree_of (fun ds μ Φ Ψ h => by obtain ⟨_, _, _, _, _, rfl, _⟩ := h; rfl) fun f cdv A outer s H E grd hr ds μ Φ Ψ h tk po => ?_
  obtain ⟨S, asks, few, d, o, rfl, hlv, hS, hl, ha, hD, k, km, kx⟩ := h
  have hu := hu_of hr.r
  have hnd := beg_nodup S
  refine wSs_rho (ρ' := [_, _, _, _, _, _, _]) rfl ?_
  -- known = told_answers(sheet)
  refine w_cons (w_set 2 sc_tree_of.nd rfl (.inr rfl) (.inl rfl) ?_)
  refine w_callX G_told_answers tk hr ?_
  refine wa_cons ?_
  refine w_name 1 rfl (.inl rfl) rfl ?_
  refine wa_nil ?_
  refine ⟨S, few, d, o, rfl, hlv, hS, hl, hD, fun hno L q hL => ?_, kx⟩
  have hC : Con (fU S) S := by
    have := fU_con (i := S.length) hS fun j p9 _ => by
      rcases hD with ⟨_, z⟩ | ⟨_, _, z, _⟩
      · exact z j p9
      · rw [hno] at z
        cases z
    rwa [List.take_of_length_le (Nat.le_refl _)] at this
  refine wSs_fzD (i := 0) (j := 2) rfl rfl ?_
  -- rooms = beginnings(sheet)
  refine w_cons (w_set 3 sc_tree_of.nd rfl (.inr rfl) (.inl rfl) ?_)
  refine w_callG G_beginnings hr ?_
  refine wa_cons ?_
  refine w_name 1 rfl (.inl rfl) rfl ?_
  refine wa_nil ?_
  refine ⟨S, few, d, rfl, hlv, hS, hl, fun q2 => ?_⟩
  refine wSs_fzD (i := 0) (j := 3) rfl rfl ?_
  -- if len(rooms) > MOST_ROOMS:
  refine w_cons (w_if ?_)
  refine wt_cmp ?_
  refine w_callB (id := "len") T.b_len ?_
  refine wa_cons ?_
  refine w_name 3 rfl (.inr (.inl rfl)) rfl ?_
  refine wa_nil ?_
  refine c_lenZ ?_
  rw [List.length_map, bD_len]
  refine w_glob T.c_MOST_ROOMS ?_
  walk_at "Gt"
  refine ⟨_, rfl, ?_⟩
  refine ⟨fun hb => ?_, fun hb => ?_⟩
  rotate_left
  have hB : (begF S).length ≤ 24 := by have := of_decide_eq_false hb; omega
  rotate_left
  · -- raise TooMany('too many rooms')
    refine w_cons (w_raise tk rfl PySem.F.excBase_ValueError TC.x_TooMany TC.g_TooMany TC.k_TooMany (raises_own TC.s_TooMany TC.t_TooMany) ?_)
    exact km hno (by have := of_decide_eq_true hb; omega)
  refine w_nil ?_
  -- found = []
  refine w_cons (w_set 4 sc_tree_of.nd rfl (.inl rfl) (.inl rfl) ?_)
  refine w_lstM ?_
  refine wa_nil ?_
  refine ⟨by simp, fun p => ?_⟩
  -- for row in rooms:
  refine w_cons (w_forV [5] ?_ po rfl)
  refine wi_keysD ?_
  refine w_name 3 rfl (.inr (.inl rfl)) rfl ?_
  refine ⟨_, _, rfl, ?_⟩
  rw [bD_keys]
  refine ⟨_, fun i vs μ' => ∃  (w5 : Option D), vs = [w5] ∧ (p, .lst (((begF S).take i).map fun row => roomD (treeR (fU S) S asks row))) :: μ = μ', (by first | exact nats_len | exact nats2_len | exact enumD_len.trans (List.length_map _) | exact enumD_len | exact List.length_map _ | exact rfl | simp), ⟨_, rfl, rfl⟩, ?_, ?_⟩
  · rintro irow x vs μ' hx ⟨w5, rfl, rfl⟩
    refine wG_rho (ρ' := [_, _, _, _, _, _, _]) rfl ?_
    obtain ⟨row, hrow, rfl⟩ := map_get' hx
    refine wg_name 5 sc_tree_of.nd rfl (.inr rfl) (.inl rfl) ?_
    -- found.append(tuple([(rooms.get(row + (ask,)), known.get(row + (ask,))) for ask in range(asks)]))
    refine w_cons (w_expr ?_)
    refine w_append ?_
    refine w_name 4 rfl (.inl rfl) rfl ?_
    first | refine ⟨.inl ⟨rfl, 0, _, rfl⟩, ?_⟩ | refine ⟨.inl ⟨rfl, 1, _, rfl⟩, ?_⟩ | refine ⟨.inl ⟨rfl, 2, _, rfl⟩, ?_⟩ | refine ⟨.inl ⟨rfl, 3, _, rfl⟩, ?_⟩ | refine ⟨rfl, ?_⟩
    refine wa_cons ?_
    refine w_callTy (T := "tuple") T.b_tuple ?_
    refine wa_cons ?_
    -- comp [(rooms.get(row + (ask,)), known.get(row + (ask,))) for ask in range(asks)]
    refine w_fz0 (w_lcM (own := [("ask", 6)]) (.one 6) (by decide) rfl sc_tree_of.nd (blkOk_by (N := N_tree_of) (sc := defScope s_tree_of) (by decide +kernel)) (fun _ _ _ _ _ => pg_name (i := 6) sc_tree_of.nd rfl (by first | exact .inl rfl | exact .inr rfl)) ?_)
    refine lcW_of ?_
    refine wi_rngN T.b_range ?_
    refine w_name 0 rfl (.inl rfl) rfl ?_
    refine ⟨_, by rfl, by omega, ?_⟩
    refine lcq_map (List.range asks) _ ((fun a => cellD (idxO (begF S) (row ++ [a]), ansF (fU S) S (row ++ [a])))) rfl (by first | omega | (simp only [List.length_map, List.length_range]; omega) | (simp; omega) | simp) ?_ ?_
    · intro p_ask iask ask hask
      obtain ⟨hask, rfl⟩ := range_get hask
      refine ⟨[_, _, _, _, _, _, _], rfl, fun _ _ _ _ _ => ?_⟩
      refine w_tup ?_
      refine wa_cons ?_
      refine w_zget1 hu ?_
      refine w_name 3 rfl (.inr (.inl rfl)) rfl ?_
      refine ⟨_, _, rfl, ?_⟩
      refine w_bin ?_
      refine w_name 5 rfl (.inr (.inl rfl)) rfl ?_
      refine w_tup ?_
      refine wa_cons ?_
      refine w_name 6 rfl (.inl rfl) rfl ?_
      refine wa_nil ?_
      refine ⟨by simp, ?_⟩
      refine o_addT (by have := (beg_row hS row (List.mem_of_getElem? hrow)).1; rw [List.length_map]; show _ + 1 ≤ _; omega) ?_
      rw [row_snoc]
      refine ⟨rk (row ++ [ask]), rk_eq _, ?_⟩
      rw [bD_zval, (bD_val hnd _).1]
      refine wa_cons ?_
      refine w_zget1 hu ?_
      refine w_name 2 rfl (.inr (.inl rfl)) rfl ?_
      refine ⟨_, _, rfl, ?_⟩
      refine w_bin ?_
      refine w_name 5 rfl (.inr (.inl rfl)) rfl ?_
      refine w_tup ?_
      refine wa_cons ?_
      refine w_name 6 rfl (.inl rfl) rfl ?_
      refine wa_nil ?_
      refine ⟨by simp, ?_⟩
      refine o_addT (by have := (beg_row hS row (List.mem_of_getElem? hrow)).1; rw [List.length_map]; show _ + 1 ≤ _; omega) ?_
      rw [row_snoc]
      refine ⟨rk (row ++ [ask]), rk_eq _, ?_⟩
      have ea : (valD (kD' (fU S) L) (rk (row ++ [ask]))).getD .non = optD (ansF (fU S) S (row ++ [ask])) := by
        rw [kD_val]
        unfold ansF
        by_cases hm : tldB S (row ++ [ask]) = true
        · rw [if_pos ((hL _).mpr hm), if_pos hm]; rfl
        · rw [if_neg fun z => hm ((hL _).mp z), if_neg hm]; rfl
      rw [kD_zval, ea]
      refine wa_nil ?_
      refine ⟨by simp, ?_⟩
      exact ⟨rfl, rfl⟩
    intro p_c
    refine ⟨_, _, _, rfl, rfl, ?_⟩
    refine wa_nil ?_
    walk_at "c_tuple"
    refine wa_nil ?_
    refine m_append 0 rfl (by rw [List.length_map]; have := List.length_take_le' irow (begF S); omega) ?_
    refine w_nil ?_
    have et : roomD (treeR (fU S) S asks row) = .tup ((List.range asks).map fun a => cellD (idxO (begF S) (row ++ [a]), ansF (fU S) S (row ++ [a]))) := by unfold roomD treeR; rw [List.map_map]; rfl
    exact ⟨[_], rfl, ⟨_, rfl, (by rw [filter_next hrow, List.map_append, List.map_singleton, et]; rfl)⟩⟩
  rintro vs μ' ⟨w5, rfl, rfl⟩
  refine wSs_rho (ρ' := [_, _, _, _, _, _, _]) rfl ?_
  -- return (asks, tuple(found))
  refine w_cons (w_ret (w_dr ?_))
  refine w_tup ?_
  refine wa_cons ?_
  refine w_name 0 rfl (.inl rfl) rfl ?_
  refine wa_cons ?_
  refine w_callTy (T := "tuple") T.b_tuple ?_
  refine wa_cons ?_
  refine w_name 4 rfl (.inl rfl) rfl ?_
  refine wa_nil ?_
  walk_at "c_tuple"
  refine wa_nil ?_
  refine ⟨by simp, ?_⟩
  rw [List.take_of_length_le (Nat.le_refl _)]
  have e : D.tup [.int asks, .tup ((begF S).map fun row => roomD (treeR (fU S) S asks row))] = machD (treeM (fU S) S asks) := by
    unfold machD treeM
    rw [List.map_map]
    rfl
  rw [e]
  exact ⟨_, List.sublist_cons_self _ _, k hno hB⟩
end
end L37

namespace L37
open PySem PySem.Spec L2 Oc
open Evl (Ex)
local macro_rules | `(tactic| walk_at "s") => `(tactic| first | assumption | omega | decide | (simp only [] at *; omega))
local macro_rules | `(tactic| walk_at "Add") => `(tactic| first | refine o_addN ?_ | refine o_add ?_ | refine o_addS (by walk_at "s") ?_ | refine o_addT (by walk_at "s") ?_ | refine o_addL (by walk_at "s") ?_)
local macro_rules | `(tactic| walk_at "Sub") => `(tactic| refine o_sub ?_)
local macro_rules | `(tactic| walk_at "Mult") => `(tactic| refine o_mul (by walk_at "s") ?_)
local macro_rules | `(tactic| walk_at "Mod") => `(tactic| first | refine o_modN (by walk_at "s") ?_ | refine o_mod (by walk_at "s") ?_)
local macro_rules | `(tactic| walk_at "FloorDiv") => `(tactic| first | refine o_divN (by walk_at "s") ?_ | refine o_div (by walk_at "s") ?_)
local macro_rules | `(tactic| walk_at "Pow") => `(tactic| refine o_pow (by walk_at "s") ?_)
local macro_rules | `(tactic| walk_at "LShift") => `(tactic| refine o_shl (by walk_at "s") ?_)
local macro_rules | `(tactic| walk_at "RShift") => `(tactic| refine o_shr (by walk_at "s") ?_)
local macro_rules | `(tactic| walk_at "BitAnd") => `(tactic| refine o_band ?_)
local macro_rules | `(tactic| walk_at "BitXor") => `(tactic| refine o_bxor ?_)
local macro_rules | `(tactic| walk_at "BitOr") => `(tactic| refine o_bor ?_)
local macro_rules | `(tactic| walk_at "Lt") => `(tactic| refine o_lt ?_)
local macro_rules | `(tactic| walk_at "LtE") => `(tactic| refine o_le ?_)
local macro_rules | `(tactic| walk_at "Gt") => `(tactic| refine o_gt ?_)
local macro_rules | `(tactic| walk_at "GtE") => `(tactic| refine o_ge ?_)
local macro_rules | `(tactic| walk_at "Eq") => `(tactic| refine o_eq (by rfl) ?_)
local macro_rules | `(tactic| walk_at "NotEq") => `(tactic| refine o_ne (by rfl) ?_)
local macro_rules | `(tactic| walk_at "Is") => `(tactic| refine o_isN ?_)
local macro_rules | `(tactic| walk_at "IsNot") => `(tactic| refine o_notN ?_)
local macro_rules | `(tactic| walk_at "In") => `(tactic| refine o_in (by first | exact .inl rfl | exact .inr (.inl rfl) | exact .inr (.inr rfl)) (by rfl) (by rfl) ?_)
local macro_rules | `(tactic| walk_at "NotIn") => `(tactic| refine o_nin (by first | exact .inl rfl | exact .inr (.inl rfl) | exact .inr (.inr rfl)) (by rfl) (by rfl) ?_)
local macro_rules | `(tactic| walk_at "c_abs") => `(tactic| refine c_abs ?_)
local macro_rules | `(tactic| walk_at "c_len") => `(tactic| first | refine c_lenL ?_ | refine c_lenC ?_ | refine c_lenT ?_ | refine c_lenS (by walk_at "s") ?_ | refine c_lenP 0 (by first | assumption | rfl) ?_)
local macro_rules | `(tactic| walk_at "c_str") => `(tactic| refine c_str (by walk_at "s") ?_)
local macro_rules | `(tactic| walk_at "c_isinstance") => `(tactic| refine c_isi rfl (by rfl) ?_)
local macro_rules | `(tactic| walk_at "sl") => `(tactic| first | refine sd_tup ?_ | refine sd_lst ?_)
local macro_rules | `(tactic| walk_at "c_tuple") => `(tactic| first | refine c_tupL ?_ | refine c_tupP 0 (by first | assumption | rfl) ?_ | refine c_tupT ?_)
local macro_rules | `(tactic| walk_at "c_int") => `(tactic| first | refine c_intB ?_)
local macro_rules | `(tactic| walk_at "USub") => `(tactic| refine u_neg ?_)
local macro_rules | `(tactic| walk_at "pen") => `(tactic| first | assumption | exact get_set (by assumption) | exact get_set (get_set (by assumption)) | exact get_here | (apply get_cons; walk_at "pen") | (apply get_app; walk_at "pen"))
local macro_rules | `(tactic| walk_at "mu") => `(tactic| simp only [List.set_cons_succ, List.set_set, List.set_cons_zero])
/-! ### small machines, sheets of k36..k41 -/
abbrev Small := List (List (Nat × Nat))
def smD (R : Small) : D := .tup (R.map fun r => .tup (r.map natP))
structure SmOk (R : Small) (asks : Nat) : Prop where
  r0 : 0 < R.length
  rm : R.length ≤ 24
  ok : ∀ r ∈ R, r.length = asks ∧ ∀ c ∈ r, c.1 < R.length ∧ c.2 < 8
def stepR (R : Small) (s : Nat × Nat) (a : Nat) : Nat × Nat := (R.getD s.1 []).getD a (0, 0)
def goR (R : Small) (row : List Nat) : Nat × Nat := row.foldl (stepR R) (0, 0)
def fR (R : Small) (row : List Nat) : Nat := (goR R row).2
theorem goR_snoc (R : Small) (l : List Nat) (a : Nat) : goR R (l ++ [a]) = stepR R (goR R l) a := by unfold goR; rw [List.foldl_append]; rfl
theorem small_at {R : Small} {asks r a : Nat} (hR : SmOk R asks) (hr : r < R.length) (ha : a < asks) : ∃ row c, R[r]? = some row ∧ row[a]? = some c ∧ stepR R (r, 0) a = c ∧ (c.1 < R.length ∧ c.2 < 8) ∧ row.length = asks := by
  obtain ⟨hl, hc⟩ := hR.ok _ (List.getElem_mem hr)
  have ha' : a < (R[r]).length := by rw [hl]; exact ha
  refine ⟨R[r], (R[r])[a], List.getElem?_eq_getElem hr, List.getElem?_eq_getElem ha', ?_, hc _ (List.getElem_mem ha'), hl⟩
  unfold stepR
  rw [List.getD_eq_getElem?_getD (l := R), List.getElem?_eq_getElem hr]
  show (R[r]).getD a (0, 0) = _
  rw [List.getD_eq_getElem?_getD, List.getElem?_eq_getElem ha']
  rfl
theorem goR_in {R : Small} {asks : Nat} (hR : SmOk R asks) : ∀ (row : List Nat) (s : Nat × Nat), s.1 < R.length → (∀ a ∈ row, a < asks) → (row.foldl (stepR R) s).1 < R.length
  | [], s, h, _ => h
  | a :: l, s, h, ha => by
    rw [List.foldl_cons]
    refine goR_in hR l _ ?_ fun b hb => ha b (List.mem_cons_of_mem _ hb)
    obtain ⟨_, c, _, _, e, hc, _⟩ := small_at hR h (ha a List.mem_cons_self)
    have e : stepR R s a = c := e
    rw [e]
    exact hc.1
def S_small : FS := fun ds μ Φ => ∃ (ns : List Int) (n : Nat) (q : Addr) (i asks most : Nat), ds = [.ptr q, .int asks, .int most] ∧ μ[i]? = some (q, penO ns n) ∧ n ≤ 700000 ∧ (0 < asks ∧ asks ≤ 4) ∧ (0 < most ∧ most ≤ 24) ∧
  ∀ (R : Small) (n' : Nat) μ', SmOk R asks → n' ≤ n + 300 → μ' = μ.set i (q, penO ns n') → Φ (smD R) μ'
def S_trow : FS := fun ds μ Φ => ∃ (ns : List Int) (n : Nat) (q : Addr) (i asks share : Nat) (R : Small) (row : List Nat), ds = [.ptr q, smD R, rowD row, .int share] ∧ μ[i]? = some (q, penO ns n) ∧ n ≤ 800000 ∧ SmOk R asks ∧ row.length ≤ 12 ∧ (∀ a ∈ row, a < asks) ∧ share ≤ 100 ∧
  ∀ (an : List (Option Nat)) (n' : Nat) μ', an.length = row.length → (∀ (p a : Nat), an[p]? = some (some a) → fR R (row.take (p + 1)) = a) → (∀ o ∈ an, ∀ x, o = some x → x < 8) → n' ≤ n + 12 → μ' = μ.set i (q, penO ns n') → Φ (toldD (row, an)) μ'
def S_sheet : FS := fun ds μ Φ => ∃ (ns : List Int) (n : Nat) (q : Addr) (i asks many most : Nat) (R : Small), ds = [.ptr q, smD R, .int many, .int most] ∧ μ[i]? = some (q, penO ns n) ∧ n ≤ 700000 ∧ SmOk R asks ∧ (0 < asks ∧ asks ≤ 4) ∧ many ≤ 24 ∧ (0 < most ∧ most ≤ 1000) ∧
  ∀ (S : List Told) (n' : Nat) μ', SOk asks S → Con (fR R) S → S.length ≤ many → (begF S).length ≤ most → n' ≤ n + 2000 → μ' = μ.set i (q, penO ns n') → Φ (.lst (S.map toldD)) μ'
theorem an_snoc {an : List (Option Nat)} {row : List Nat} {R : Small} {i x a : Nat} {o : Option Nat} (hx : row[i]? = some x) (hl : an.length = i) (h : ∀ (p a : Nat), an[p]? = some (some a) → fR R (row.take (p + 1)) = a) (ho : ∀ a, o = some a → fR R (row.take (i + 1)) = a) : ∀ (p a : Nat), (an ++ [o])[p]? = some (some a) → fR R (row.take (p + 1)) = a := fun p a e => by
  by_cases hp : p < an.length
  · rw [List.getElem?_append_left hp] at e
    exact h p a e
  · rw [List.getElem?_append_right (by omega)] at e
    have : p - an.length = 0 := by
      have := (List.getElem?_eq_some_iff.mp e).1
      simpa using this
    rw [this] at e
    cases e
    rw [show p = i by omega]
    exact ho _ rfl
theorem ly_told (t : Told) : Ly (toldD t) 2 := Ly.tup (.cons (ly_row t.1) (.cons (Ly.tup (Lys.map fun o _ => ly_opt o)) .nil))
section
variable {P : Program} {w : World} {K : PySem.W.Frag} {mg : Str → Option Value} {base : Heap}
theorem ok_small (B : Src K mg "_law_small" s__law_small ["_law_pen_here", "_law_asks", "_law_most"]) (T : Tx mg) (G__law_draw : KnG P w K mg base 1 "_law_draw" ["_law_pen_here", "_law_many"] S_draw) : KnG P w K mg base 2 "_law_small" ["_law_pen_here", "_law_asks", "_law_most"] S_small := by
  refine kn_ofG B sc__law_small (fun ds μ Φ h => by obtain ⟨_, _, _, _, _, _, rfl, _⟩ := h; rfl) fun f cdv A outer s H E grd hr ds μ Φ h => ?_
  obtain ⟨ns, n, q, ip, asks, most, rfl, hpen, hn, hasks, hmost, k⟩ := h
  refine wSs_rho (ρ' := [_, _, _, _, _, _, _, _]) rfl ?_
  -- _law_many = 1 + _law_draw(_law_pen_here, _law_most)
  refine w_cons (w_set 3 sc__law_small.nd rfl (.inr rfl) (.inl rfl) ?_)
  refine w_bin ?_
  refine w_int ?_
  refine w_callG G__law_draw hr ?_
  refine wa_cons ?_
  refine w_name 0 rfl (.inr (.inl rfl)) rfl ?_
  refine wa_cons ?_
  refine w_name 2 rfl (.inl rfl) rfl ?_
  refine wa_nil ?_
  refine ⟨_, _, _, _, _, rfl, by walk_at "pen", by omega, by omega, fun r1 μ1 hr1 e1 => ?_⟩
  try simp only [List.set_cons_succ, List.set_set, List.set_cons_zero] at e1
  subst e1
  first | refine o_addN (a := 1) ?_ | walk_at "Add"
  obtain ⟨many, hmany⟩ : ∃ many, many = 1 + r1 := ⟨_, rfl⟩
  rw [← hmany]
  -- _law_answers = [2, 3, 8][_law_draw(_law_pen_here, 3)]
  refine w_cons (w_set 4 sc__law_small.nd rfl (.inr rfl) (.inl rfl) ?_)
  refine w_ix ?_
  refine w_lst ?_
  refine wa_cons ?_
  refine w_int ?_
  refine wa_cons ?_
  refine w_int ?_
  refine wa_cons ?_
  refine w_int ?_
  refine wa_nil ?_
  refine ⟨by simp, ?_⟩
  refine w_callG G__law_draw hr ?_
  refine wa_cons ?_
  refine w_name 0 rfl (.inr (.inl rfl)) rfl ?_
  refine wa_cons ?_
  refine w_int ?_
  refine wa_nil ?_
  refine ⟨_, _, _, _, _, rfl, by walk_at "pen", by omega, by omega, fun r2 μ2 hr2 e2 => ?_⟩
  try simp only [List.set_cons_succ, List.set_set, List.set_cons_zero] at e2
  subst e2
  first | refine ix_litN [2, 3, 8] (by show (_ : Nat) < 3; omega) fun x1 hx1 => ?_ | refine ix_lit [2, 3, 8] (by omega) (by show (_ : Int) < 3; omega) fun x1 hx1 => ?_
  have hb1 : 2 ≤ x1 ∧ x1 ≤ 8 := by simp at hx1; omega
  -- _law_found = []
  refine w_cons (w_set 5 sc__law_small.nd rfl (.inl rfl) (.inl rfl) ?_)
  refine w_lstM ?_
  refine wa_nil ?_
  refine ⟨by simp, fun pr => ?_⟩
  -- for _law_room in range(_law_many):
  refine w_cons (w_forV [6] ?_ PassesOwn.never rfl)
  refine wi_rngN T.b_range ?_
  refine w_name 3 rfl (.inr (.inl rfl)) rfl ?_
  refine ⟨_, by rfl, by omega, ?_⟩
  refine ⟨_, fun i vs μ' => ∃ (R : Small) (c : Nat) (w6 : Option D), (R.length = i) ∧ (∀ r ∈ R, r.length = asks ∧ ∀ c ∈ r, c.1 < many ∧ c.2 < 8) ∧ (c ≤ n + 2 + 8 * i) ∧ vs = [w6] ∧ (pr, .lst (R.map fun r => .tup (r.map natP))) :: μ.set ip (q, penO ns c) = μ', (by first | exact nats_len | exact nats2_len | exact enumD_len.trans (List.length_map _) | exact enumD_len | exact List.length_map _ | exact rfl | simp), ⟨[], n + 1 + 1, _, rfl, (fun r hr => (nomatch hr)), (by omega), rfl, rfl⟩, ?_, ?_⟩
  · rintro room x vs μ' hx ⟨R, c, w6, hRl, hR, hc, rfl, rfl⟩
    refine wG_rho (ρ' := [_, _, _, _, _, _, _, _]) rfl ?_
    obtain ⟨hroom, rfl⟩ := nats_get hx
    refine wg_name 6 sc__law_small.nd rfl (.inl rfl) (.inl rfl) ?_
    -- _law_found.append(tuple([(_law_draw(_law_pen_here, _law_many), _law_draw(_law_pen_here, _law_answers)) for _law_ask in range(_law_asks)]))
    refine w_cons (w_expr ?_)
    refine w_append ?_
    refine w_name 5 rfl (.inl rfl) rfl ?_
    first | refine ⟨.inl ⟨rfl, 0, _, rfl⟩, ?_⟩ | refine ⟨.inl ⟨rfl, 1, _, rfl⟩, ?_⟩ | refine ⟨.inl ⟨rfl, 2, _, rfl⟩, ?_⟩ | refine ⟨.inl ⟨rfl, 3, _, rfl⟩, ?_⟩ | refine ⟨rfl, ?_⟩
    refine wa_cons ?_
    refine w_callTy (T := "tuple") T.b_tuple ?_
    refine wa_cons ?_
    -- comp [(_law_draw(_law_pen_here, _law_many), _law_draw(_law_pen_here, _law_answers)) for _law_ask in range(_law_asks)]
    refine w_fz0 (w_lcM (own := [("_law_ask", 7)]) (.one 7) (by decide) rfl sc__law_small.nd (blkOk_by (N := N__law_small) (sc := defScope s__law_small) (by decide +kernel)) (fun _ _ _ _ _ => pg_name (i := 7) sc__law_small.nd rfl (by first | exact .inl rfl | exact .inr rfl)) ?_)
    refine lcW_of ?_
    refine wi_rngN T.b_range ?_
    refine w_name 1 rfl (.inl rfl) rfl ?_
    refine ⟨_, by rfl, by omega, ?_⟩
    refine ⟨by rw [nats_len]; omega, fun i acc μ2 => ∃ (C : List (Nat × Nat)) (c2 : Nat), C.length = i ∧ (∀ x ∈ C, x.1 < many ∧ x.2 < 8) ∧ c2 ≤ c + 2 * i ∧ acc = C.map natP ∧ μ2 = (pr, .lst (R.map fun r => .tup (r.map natP))) :: μ.set ip (q, penO ns c2), ⟨[], c, rfl, (fun x hx => (nomatch hx)), (by omega), rfl, rfl⟩, ?_, ?_⟩
    · rintro p2 i x acc μ2 hx ⟨C, c2, hCl, hC, hc2, rfl, rfl⟩
      obtain ⟨hi, rfl⟩ := nats_get hx
      refine ⟨_, rfl, fun _ _ _ _ _ => ?_⟩
      refine ⟨fun _ _ _ _ _ _ => ?_, fun hb => (nomatch hb)⟩
      refine w_tup ?_
      refine wa_cons ?_
      refine w_callG G__law_draw hr ?_
      refine wa_cons ?_
      refine w_name 0 rfl (.inr (.inl rfl)) rfl ?_
      refine wa_cons ?_
      refine w_name 3 rfl (.inr (.inl rfl)) rfl ?_
      refine wa_nil ?_
      refine ⟨_, _, _, _, _, rfl, by walk_at "pen", by omega, by omega, fun r3 μ3 hr3 e3 => ?_⟩
      try simp only [List.set_cons_succ, List.set_set, List.set_cons_zero] at e3
      subst e3
      refine wa_cons ?_
      refine w_callG G__law_draw hr ?_
      refine wa_cons ?_
      refine w_name 0 rfl (.inr (.inl rfl)) rfl ?_
      refine wa_cons ?_
      refine w_name 4 rfl (.inr (.inl rfl)) rfl ?_
      refine wa_nil ?_
      refine ⟨_, _, _, _, _, rfl, by walk_at "pen", by omega, by omega, fun r4 μ4 hr4 e4 => ?_⟩
      try simp only [List.set_cons_succ, List.set_set, List.set_cons_zero] at e4
      subst e4
      refine wa_nil ?_
      refine ⟨by simp, ?_⟩
      refine ⟨_, rfl, ?_⟩
      exact ⟨C ++ [(r3, r4)], c2 + 1 + 1, by rw [List.length_append, hCl]; rfl, (by intro x hx; rcases List.mem_append.mp hx with hx | hx; exact hC x hx; rw [List.mem_singleton] at hx; subst hx; exact ⟨by show r3 < many; omega, by show r4 < 8; omega⟩), by omega, by rw [List.map_append]; rfl, rfl⟩
    rintro p2 acc μ2 ⟨C, c2, hCl, hC, hc2, rfl, rfl⟩
    rw [nats_len] at hCl hc2
    refine ⟨_, _, _, rfl, rfl, ?_⟩
    refine wa_nil ?_
    walk_at "c_tuple"
    refine wa_nil ?_
    refine m_append 0 rfl (by rw [List.length_map]; omega) ?_
    refine w_nil ?_
    exact ⟨[_], rfl, ⟨R ++ [C], c2, _, (by rw [List.length_append, hRl]; rfl), (by intro r hr; rcases List.mem_append.mp hr with hr | hr; exact hR r hr; rw [List.mem_singleton] at hr; subst hr; exact ⟨hCl, hC⟩), (by omega), rfl, (by rw [List.map_append]; rfl)⟩⟩
  rintro vs μ' ⟨R, c, w6, hRl, hR, hc, rfl, rfl⟩
  refine wSs_rho (ρ' := [_, _, _, _, _, _, _, _]) rfl ?_
  -- return tuple(_law_found)
  refine w_cons (w_ret (w_dr ?_))
  refine w_callTy (T := "tuple") T.b_tuple ?_
  refine wa_cons ?_
  refine w_name 5 rfl (.inl rfl) rfl ?_
  refine wa_nil ?_
  walk_at "c_tuple"
  exact ⟨_, List.sublist_cons_self _ _, k R c _ ⟨by omega, by omega, fun r hr => ⟨(hR r hr).1, fun x hx => by rw [hRl]; exact (hR r hr).2 x hx⟩⟩ (by omega) rfl⟩
theorem ok_trow (B : Src K mg "_law_told_row" s__law_told_row ["_law_pen_here", "_law_rooms", "_law_row", "_law_share"]) (T : Tx mg) (G__law_draw : KnG P w K mg base 1 "_law_draw" ["_law_pen_here", "_law_many"] S_draw) : KnG P w K mg base 2 "_law_told_row" ["_law_pen_here", "_law_rooms", "_law_row", "_law_share"] S_trow := by
  refine kn_ofG B sc__law_told_row (fun ds μ Φ h => by obtain ⟨_, _, _, _, _, _, _, _, rfl, _⟩ := h; rfl) fun f cdv A outer s H E grd hr ds μ Φ h => ?_
  obtain ⟨ns, n, q, ip, asks, share, R, row, rfl, hpen, hn, hR, hrl, hra, hshare, k⟩ := h
  refine wSs_rho (ρ' := [_, _, _, _, _, _, _, _]) rfl ?_
  -- _law_room = 0
  refine w_cons (w_set 4 sc__law_told_row.nd rfl (.inl rfl) (.inl rfl) ?_)
  refine w_int ?_
  -- _law_answers = []
  refine w_cons (w_set 5 sc__law_told_row.nd rfl (.inl rfl) (.inl rfl) ?_)
  refine w_lstM ?_
  refine wa_nil ?_
  refine ⟨by simp, fun pa => ?_⟩
  -- for _law_ask in _law_row:
  refine w_cons (w_forV [4, 6, 7] ?_ PassesOwn.never rfl)
  refine wi_tup ?_
  refine w_name 2 rfl (.inl rfl) rfl ?_
  refine ⟨_, rfl, ?_⟩
  refine ⟨_, fun i vs μ' => ∃ (an : List (Option Nat)) (c : Nat) (rm : Nat) (w6 w7 : Option D), (rm = (goR R (row.take i)).1) ∧ (an.length = i) ∧ (∀ (p a : Nat), an[p]? = some (some a) → fR R (row.take (p + 1)) = a) ∧ (∀ o ∈ an, ∀ x, o = some x → x < 8) ∧ (c ≤ n + i) ∧ vs = [some (.int (rm : Nat)), w6, w7] ∧ (pa, .lst (an.map optD)) :: μ.set ip (q, penO ns c) = μ', (by first | exact nats_len | exact nats2_len | exact enumD_len.trans (List.length_map _) | exact enumD_len | exact List.length_map _ | exact rfl | simp), ⟨[], n, 0, _, _, rfl, rfl, (fun p a e => (by cases e)), (fun o h => (nomatch h)), (by omega), rfl, (by rw [set_same hpen]; rfl)⟩, ?_, ?_⟩
  · rintro iask x vs μ' hx ⟨an, c, rm, w6, w7, hrm, hal, han, ha8, hc, rfl, rfl⟩
    refine wG_rho (ρ' := [_, _, _, _, _, _, _, _]) rfl ?_
    obtain ⟨ask, hask, rfl⟩ := map_get' hx
    have hil := lt_of_get hask
    have hnx := goR_snoc R (row.take iask) ask
    rw [← filter_next hask] at hnx
    have hin : (goR R (row.take iask)).1 < R.length := goR_in hR (row.take iask) (0, 0) hR.r0 fun a h => hra a (List.mem_of_mem_take h)
    obtain ⟨rw_, ce, h1, h2, h3, h4, h5⟩ := small_at hR hin (hra ask (List.mem_of_getElem? hask))
    have h3 : stepR R (goR R (row.take iask)) ask = ce := h3
    rw [h3] at hnx
    refine wg_name 6 sc__law_told_row.nd rfl (.inl rfl) (.inl rfl) ?_
    -- _law_room, _law_answer = _law_rooms[_law_room][_law_ask]
    refine w_cons (w_asg ?_)
    refine w_ix ?_
    refine w_ix ?_
    refine w_name 1 rfl (.inl rfl) rfl ?_
    refine w_name 4 rfl (.inl rfl) rfl ?_
    subst hrm
    refine ix_tupD _ rfl (map_at h1) ?_
    refine w_name 6 rfl (.inl rfl) rfl ?_
    refine ix_tupD _ rfl (map_at h2) ?_
    first | refine wg_tup rfl rfl ?_ | refine wg_lst rfl rfl ?_
    refine wgs_cons ?_
    refine wg_name 4 sc__law_told_row.nd rfl (.inl rfl) (.inl rfl) ?_
    refine wgs_cons ?_
    refine wg_name 7 sc__law_told_row.nd rfl (.inl rfl) (.inl rfl) ?_
    refine wgs_nil ?_
    -- _law_answers.append(_law_answer if _law_draw(_law_pen_here, _law_share + 1) > 0 else None)
    refine w_cons (w_expr ?_)
    refine w_append ?_
    refine w_name 5 rfl (.inl rfl) rfl ?_
    first | refine ⟨.inl ⟨rfl, 0, _, rfl⟩, ?_⟩ | refine ⟨.inl ⟨rfl, 1, _, rfl⟩, ?_⟩ | refine ⟨.inl ⟨rfl, 2, _, rfl⟩, ?_⟩ | refine ⟨.inl ⟨rfl, 3, _, rfl⟩, ?_⟩ | refine ⟨rfl, ?_⟩
    refine wa_cons ?_
    refine w_mono (Ψ := (fun d μ1 => ∃ (u : Option Nat), (∀ x, u = some x → x = ce.2) ∧ d = optD u ∧ μ1 = (pa, .lst (an.map optD)) :: μ.set ip (q, penO ns (c + 1)))) ?_ ?_
    · refine w_ifx ?_
      refine wt_cmp ?_
      refine w_callG G__law_draw hr ?_
      refine wa_cons ?_
      refine w_name 0 rfl (.inl rfl) rfl ?_
      refine wa_cons ?_
      refine w_bin ?_
      refine w_name 3 rfl (.inl rfl) rfl ?_
      refine w_int ?_
      first | refine o_addN (b := 1) ?_ | walk_at "Add"
      refine wa_nil ?_
      refine ⟨_, _, _, _, _, rfl, by walk_at "pen", by omega, by omega, fun r1 μ1 hr1 e1 => ?_⟩
      try simp only [List.set_cons_succ, List.set_set, List.set_cons_zero] at e1
      subst e1
      refine w_int ?_
      walk_at "Gt"
      refine ⟨_, rfl, ?_⟩
      refine ⟨fun hb => ?_, fun hb => ?_⟩
      · refine w_name 7 rfl (.inl rfl) rfl ?_
        exact ⟨some ce.2, fun x e => by cases e; rfl, rfl, rfl⟩
      · refine w_non ?_
        exact ⟨none, fun x e => (nomatch e), rfl, rfl⟩
    rintro d μ1 ⟨u, hu, rfl, rfl⟩
    refine wa_nil ?_
    refine m_append 0 rfl (by rw [List.length_map]; omega) ?_
    refine w_nil ?_
    exact ⟨[_, _, _], rfl, ⟨an ++ [u], c + 1, ce.1, _, _, (by rw [hnx]), (by rw [List.length_append, hal]; rfl), (an_snoc (a := 0) hask hal han fun a e => by unfold fR; rw [hnx, hu a e]), (by intro o ho x e; rcases List.mem_append.mp ho with ho | ho; exact ha8 o ho x e; rw [List.mem_singleton] at ho; subst ho; rw [hu x e]; exact h4.2), (by omega), rfl, (by rw [List.map_append]; rfl)⟩⟩
  rintro vs μ' ⟨an, c, rm, w6, w7, hrm, hal, han, ha8, hc, rfl, rfl⟩
  refine wSs_rho (ρ' := [_, _, _, _, _, _, _, _]) rfl ?_
  -- return (_law_row, tuple(_law_answers))
  refine w_cons (w_ret (w_dr ?_))
  refine w_tup ?_
  refine wa_cons ?_
  refine w_name 2 rfl (.inl rfl) rfl ?_
  refine wa_cons ?_
  refine w_callTy (T := "tuple") T.b_tuple ?_
  refine wa_cons ?_
  refine w_name 5 rfl (.inl rfl) rfl ?_
  refine wa_nil ?_
  walk_at "c_tuple"
  refine wa_nil ?_
  refine ⟨by simp, ?_⟩
  exact ⟨_, List.sublist_cons_self _ _, k an c _ hal han ha8 (by omega) rfl⟩
theorem ok_sheet (B : Src K mg "_law_sheet" s__law_sheet ["_law_pen_here", "_law_rooms", "_law_many", "_law_most"]) (T : Tx mg) (G__law_draw : KnG P w K mg base 1 "_law_draw" ["_law_pen_here", "_law_many"] S_draw) (G__law_told_row : KnG P w K mg base 2 "_law_told_row" ["_law_pen_here", "_law_rooms", "_law_row", "_law_share"] S_trow) (G__law_begun : KnG P w K mg base 1 "_law_begun" ["_law_sheet_here"] S_begun) : KnG P w K mg base 3 "_law_sheet" ["_law_pen_here", "_law_rooms", "_law_many", "_law_most"] S_sheet := by
  refine kn_ofG B sc__law_sheet (fun ds μ Φ h => by obtain ⟨_, _, _, _, _, _, _, _, rfl, _⟩ := h; rfl) fun f cdv A outer s H E grd hr ds μ Φ h => ?_
  obtain ⟨ns, n, q, ip, asks, many, most, R, rfl, hpen, hn, hR, hasks, hmany, hmost, k⟩ := h
  have hr0 := hR.r0
  refine wSs_rho (ρ' := [_, _, _, _, _, _, _, _, _, _, _, _, _]) rfl ?_
  -- _law_share = [1, 2, 4, 9][_law_draw(_law_pen_here, 4)]
  refine w_cons (w_set 4 sc__law_sheet.nd rfl (.inl rfl) (.inl rfl) ?_)
  refine w_ix ?_
  refine w_lst ?_
  refine wa_cons ?_
  refine w_int ?_
  refine wa_cons ?_
  refine w_int ?_
  refine wa_cons ?_
  refine w_int ?_
  refine wa_cons ?_
  refine w_int ?_
  refine wa_nil ?_
  refine ⟨by simp, ?_⟩
  refine w_callG G__law_draw hr ?_
  refine wa_cons ?_
  refine w_name 0 rfl (.inr (.inl rfl)) rfl ?_
  refine wa_cons ?_
  refine w_int ?_
  refine wa_nil ?_
  refine ⟨_, _, _, _, _, rfl, by walk_at "pen", by omega, by omega, fun r1 μ1 hr1 e1 => ?_⟩
  try simp only [List.set_cons_succ, List.set_set, List.set_cons_zero] at e1
  subst e1
  first | refine ix_litN [1, 2, 4, 9] (by show (_ : Nat) < 4; omega) fun x1 hx1 => ?_ | refine ix_lit [1, 2, 4, 9] (by omega) (by show (_ : Int) < 4; omega) fun x1 hx1 => ?_
  have hb1 : 1 ≤ x1 ∧ x1 ≤ 9 := by simp at hx1; omega
  -- _law_wide = [3, 5, 12][_law_draw(_law_pen_here, 3)]
  refine w_cons (w_set 5 sc__law_sheet.nd rfl (.inl rfl) (.inl rfl) ?_)
  refine w_ix ?_
  refine w_lst ?_
  refine wa_cons ?_
  refine w_int ?_
  refine wa_cons ?_
  refine w_int ?_
  refine wa_cons ?_
  refine w_int ?_
  refine wa_nil ?_
  refine ⟨by simp, ?_⟩
  refine w_callG G__law_draw hr ?_
  refine wa_cons ?_
  refine w_name 0 rfl (.inr (.inl rfl)) rfl ?_
  refine wa_cons ?_
  refine w_int ?_
  refine wa_nil ?_
  refine ⟨_, _, _, _, _, rfl, by walk_at "pen", by omega, by omega, fun r2 μ2 hr2 e2 => ?_⟩
  try simp only [List.set_cons_succ, List.set_set, List.set_cons_zero] at e2
  subst e2
  first | refine ix_litN [3, 5, 12] (by show (_ : Nat) < 3; omega) fun x2 hx2 => ?_ | refine ix_lit [3, 5, 12] (by omega) (by show (_ : Int) < 3; omega) fun x2 hx2 => ?_
  have hb2 : 3 ≤ x2 ∧ x2 ≤ 12 := by simp at hx2; omega
  -- _law_asks = len(_law_rooms[0])
  refine w_cons (w_set 6 sc__law_sheet.nd rfl (.inr rfl) (.inl rfl) ?_)
  refine w_callB (id := "len") T.b_len ?_
  refine wa_cons ?_
  refine w_ix ?_
  refine w_name 1 rfl (.inl rfl) rfl ?_
  refine w_int ?_
  obtain ⟨row0, hrow0, hrow0m⟩ := get_of_lt hr0
  refine ix_tupD 0 rfl (map_at hrow0) ?_
  refine wa_nil ?_
  refine c_lenT ?_
  rw [List.length_map, (hR.ok _ hrow0m).1]
  -- _law_sheet_here = []
  refine w_cons (w_set 7 sc__law_sheet.nd rfl (.inl rfl) (.inl rfl) ?_)
  refine w_lst ?_
  refine wa_nil ?_
  refine ⟨by simp, ?_⟩
  -- for _law_turn in range(_law_many):
  refine w_cons (w_forV [7, 8, 9, 12, 10] ?_ PassesOwn.never rfl)
  refine wi_rngN T.b_range ?_
  refine w_name 2 rfl (.inl rfl) rfl ?_
  refine ⟨_, by rfl, by omega, ?_⟩
  refine ⟨_, fun i vs μ' => ∃ (S : List Told) (c : Nat) (w8 w9 w12 w10 : Option D), (SOk asks S) ∧ (Con (fR R) S) ∧ (S.length ≤ i) ∧ ((begF S).length ≤ most) ∧ (c ≤ n + 2 + 40 * i) ∧ vs = [some (.lst (S.map toldD)), w8, w9, w12, w10] ∧ μ.set ip (q, penO ns c) = μ', (by first | exact nats_len | exact nats2_len | exact enumD_len.trans (List.length_map _) | exact enumD_len | exact List.length_map _ | exact rfl | simp), ⟨[], n + 1 + 1, _, _, _, _, (fun t ht => (nomatch ht)), (fun t ht => (nomatch ht)), (by decide), hmost.1, (by omega), rfl, rfl⟩, ?_, ?_⟩
  · rintro turn x vs μ' hx ⟨S, c, w8, w9, w12, w10, hS, hC, hl, hB, hc, rfl, rfl⟩
    refine wG_rho (ρ' := [_, _, _, _, _, _, _, _, _, _, _, _, _]) rfl ?_
    obtain ⟨hturn, rfl⟩ := nats_get hx
    refine wg_name 8 sc__law_sheet.nd rfl (.inl rfl) (.inl rfl) ?_
    -- _law_row = ()
    refine w_cons (w_set 9 sc__law_sheet.nd rfl (.inl rfl) (.inl rfl) ?_)
    refine w_tup ?_
    refine wa_nil ?_
    refine ⟨by simp, ?_⟩
    -- if _law_sheet_here != [] and _law_draw(_law_pen_here, 2) == 0:
    refine w_cutV [9, 10] (fun vs μ' => ∃ (r0 : List Nat) (c2 : Nat) (w10 : Option D), (r0.length ≤ 12) ∧ (∀ a ∈ r0, a < asks) ∧ (c2 ≤ c + 4) ∧ vs = [some (rowD r0), w10] ∧ μ.set ip (q, penO ns c2) = μ') (w_if ?_) ?_
    · refine wt_mono (Ψ := (fun b μ1 => ∃ c1, c1 ≤ c + 1 ∧ (b = true → S ≠ []) ∧ μ1 = μ.set ip (q, penO ns c1))) ?_ ?_
      · refine wt_w ?_
        refine ww_and ?_
        refine wt_cmp ?_
        refine w_name 7 rfl (.inl rfl) rfl ?_
        refine w_lst ?_
        refine wa_nil ?_
        refine ⟨by simp, ?_⟩
        refine o_neY hr.units (Ly.lst (Lys.map (n := 2) fun t _ => ly_told t)) (Ly.lst Lys.nil) ?_
        rw [eqv_lnil, List.isEmpty_map]
        refine ⟨_, rfl, ?_⟩
        refine ⟨fun hb0 => ?_, fun hb0 => ?_⟩
        rotate_left
        · exact ⟨c, by omega, fun z => (nomatch z), rfl⟩
        refine ww_and1 ?_
        refine wt_cmp ?_
        refine w_callG G__law_draw hr ?_
        refine wa_cons ?_
        refine w_name 0 rfl (.inr (.inl rfl)) rfl ?_
        refine wa_cons ?_
        refine w_int ?_
        refine wa_nil ?_
        refine ⟨_, _, _, _, _, rfl, by walk_at "pen", by omega, by omega, fun r3 μ3 hr3 e3 => ?_⟩
        try simp only [List.set_cons_succ, List.set_set, List.set_cons_zero] at e3
        subst e3
        refine w_int ?_
        walk_at "Eq"
        refine ⟨_, rfl, ?_⟩
        exact ⟨c + 1, by omega, fun _ e => (by subst e; cases hb0), rfl⟩
      rintro b μ1 ⟨c1, hc1, hbn, rfl⟩
      refine ⟨fun hb => ?_, fun hb => ?_⟩
      · -- _law_elder = _law_sheet_here[_law_draw(_law_pen_here, len(_law_sheet_here))][0]
        refine w_cons (w_set 10 sc__law_sheet.nd rfl (.inl rfl) (.inl rfl) ?_)
        refine w_ix ?_
        refine w_ix ?_
        refine w_name 7 rfl (.inl rfl) rfl ?_
        refine w_callG G__law_draw hr ?_
        refine wa_cons ?_
        refine w_name 0 rfl (.inr (.inl rfl)) rfl ?_
        refine wa_cons ?_
        refine w_callB (id := "len") T.b_len ?_
        refine wa_cons ?_
        refine w_name 7 rfl (.inl rfl) rfl ?_
        refine wa_nil ?_
        have hpos : 0 < S.length := List.length_pos_iff.mpr (hbn hb)
        refine c_lenL ?_
        rw [List.length_map]
        refine wa_nil ?_
        refine ⟨_, _, _, _, _, rfl, by walk_at "pen", by omega, by omega, fun r4 μ4 hr4 e4 => ?_⟩
        try simp only [List.set_cons_succ, List.set_set, List.set_cons_zero] at e4
        subst e4
        obtain ⟨el, hel, helm⟩ := get_of_lt (show r4 < S.length by omega)
        have tel := hS el helm
        refine ix_lstD _ rfl (map_at hel) ?_
        refine w_int ?_
        refine ix_tupD 0 rfl rfl ?_
        -- _law_row = _law_elder[:_law_draw(_law_pen_here, len(_law_elder) + 1)]
        refine w_cons (w_set 9 sc__law_sheet.nd rfl (.inl rfl) (.inl rfl) ?_)
        refine w_sl ?_
        refine w_name 10 rfl (.inl rfl) rfl ?_
        refine wo_none ?_
        refine wo_some ?_
        refine w_callG G__law_draw hr ?_
        refine wa_cons ?_
        refine w_name 0 rfl (.inr (.inl rfl)) rfl ?_
        refine wa_cons ?_
        refine w_bin ?_
        refine w_callB (id := "len") T.b_len ?_
        refine wa_cons ?_
        refine w_name 10 rfl (.inl rfl) rfl ?_
        refine wa_nil ?_
        refine c_lenT ?_
        rw [List.length_map]
        have htl := tel.le
        refine w_int ?_
        first | refine o_addN (b := 1) ?_ | walk_at "Add"
        refine wa_nil ?_
        refine ⟨_, _, _, _, _, rfl, by walk_at "pen", by omega, by omega, fun r5 μ5 hr5 e5 => ?_⟩
        try simp only [List.set_cons_succ, List.set_set, List.set_cons_zero] at e5
        subst e5
        refine ⟨_, rfl, ?_⟩
        refine sd_tup ?_
        rw [cut_map_to]
        refine w_nil ?_
        exact ⟨[_, _], rfl, ⟨el.1.take r5, c1 + 1 + 1, _, (Nat.le_trans (List.length_take_le' _ _) tel.le), (fun a h => tel.ask a (List.mem_of_mem_take h)), (by omega), rfl, rfl⟩⟩
      · refine w_nil ?_
        exact ⟨[_, _], rfl, ⟨[], c1, _, (Nat.zero_le _), (fun a h => (nomatch h)), (by omega), rfl, rfl⟩⟩
    rintro vs μ' ⟨r0, c2, w10, hr12, hra, hc2, rfl, rfl⟩
    refine wSs_rho (ρ' := [_, _, _, _, _, _, _, _, _, _, _, _, _]) rfl ?_
    -- _law_row = _law_row + tuple([_law_draw(_law_pen_here, _law_asks) for _law_k in range(1 + _law_draw(_law_pen_here, _law_wide))])
    refine w_cons (w_set 9 sc__law_sheet.nd rfl (.inl rfl) (.inl rfl) ?_)
    refine w_bin ?_
    refine w_name 9 rfl (.inl rfl) rfl ?_
    refine w_callTy (T := "tuple") T.b_tuple ?_
    refine wa_cons ?_
    -- comp [_law_draw(_law_pen_here, _law_asks) for _law_k in range(1 + _law_draw(_law_pen_here, _law_wide))]
    refine w_fz0 (w_lcM (own := [("_law_k", 11)]) (.one 11) (by decide) rfl sc__law_sheet.nd (blkOk_by (N := N__law_sheet) (sc := defScope s__law_sheet) (by decide +kernel)) (fun _ _ _ _ _ => pg_name (i := 11) sc__law_sheet.nd rfl (by first | exact .inl rfl | exact .inr rfl)) ?_)
    refine lcW_of ?_
    refine wi_rngN T.b_range ?_
    refine w_bin ?_
    refine w_int ?_
    refine w_callG G__law_draw hr ?_
    refine wa_cons ?_
    refine w_name 0 rfl (.inr (.inl rfl)) rfl ?_
    refine wa_cons ?_
    refine w_name 5 rfl (.inl rfl) rfl ?_
    refine wa_nil ?_
    refine ⟨_, _, _, _, _, rfl, by walk_at "pen", by omega, by omega, fun r6 μ6 hr6 e6 => ?_⟩
    try simp only [List.set_cons_succ, List.set_set, List.set_cons_zero] at e6
    subst e6
    first | refine o_addN (a := 1) ?_ | walk_at "Add"
    refine ⟨_, by rfl, by omega, ?_⟩
    refine ⟨by rw [nats_len]; omega, fun i acc μ2 => ∃ (C : List Nat) (c3 : Nat), C.length = i ∧ (∀ a ∈ C, a < asks) ∧ c3 ≤ c2 + 1 + i ∧ acc = C.map (fun a : Nat => D.int a) ∧ μ2 = μ.set ip (q, penO ns c3), ⟨[], c2 + 1, rfl, (fun x hx => (nomatch hx)), (by omega), rfl, rfl⟩, ?_, ?_⟩
    · rintro p2 i x acc μ2 hx ⟨C, c3, hCl, hCa, hc3, rfl, rfl⟩
      obtain ⟨hi, rfl⟩ := nats_get hx
      refine ⟨_, rfl, fun _ _ _ _ _ => ?_⟩
      refine ⟨fun _ _ _ _ _ _ => ?_, fun hb => (nomatch hb)⟩
      refine w_callG G__law_draw hr ?_
      refine wa_cons ?_
      refine w_name 0 rfl (.inr (.inl rfl)) rfl ?_
      refine wa_cons ?_
      refine w_name 6 rfl (.inr (.inl rfl)) rfl ?_
      refine wa_nil ?_
      refine ⟨_, _, _, _, _, rfl, by walk_at "pen", by omega, by omega, fun r7 μ7 hr7 e7 => ?_⟩
      try simp only [List.set_cons_succ, List.set_set, List.set_cons_zero] at e7
      subst e7
      refine ⟨_, rfl, ?_⟩
      exact ⟨C ++ [r7], c3 + 1, by rw [List.length_append, hCl]; rfl, (by intro x hx; rcases List.mem_append.mp hx with hx | hx; exact hCa x hx; rw [List.mem_singleton] at hx; subst hx; omega), by omega, by rw [List.map_append]; rfl, rfl⟩
    rintro p2 acc μ2 ⟨C, c3, hCl, hCa, hc3, rfl, rfl⟩
    rw [nats_len] at hCl hc3
    refine ⟨_, _, _, rfl, rfl, ?_⟩
    refine wa_nil ?_
    walk_at "c_tuple"
    refine o_addT (by rw [List.length_map, List.length_map]; omega) ?_
    rw [← List.map_append]
    -- _law_more = _law_sheet_here + [_law_told_row(_law_pen_here, _law_rooms, _law_row[:12], _law_share)]
    refine w_cons (w_set 12 sc__law_sheet.nd rfl (.inl rfl) (.inl rfl) ?_)
    refine w_bin ?_
    refine w_name 7 rfl (.inl rfl) rfl ?_
    refine w_lst ?_
    refine wa_cons ?_
    refine w_callG G__law_told_row hr ?_
    refine wa_cons ?_
    refine w_name 0 rfl (.inr (.inl rfl)) rfl ?_
    refine wa_cons ?_
    refine w_name 1 rfl (.inl rfl) rfl ?_
    refine wa_cons ?_
    refine w_sl ?_
    refine w_name 9 rfl (.inl rfl) rfl ?_
    refine wo_none ?_
    refine wo_some ?_
    refine w_int ?_
    refine ⟨_, rfl, ?_⟩
    refine sd_tup ?_
    have e12 : Oc.cutD ((r0 ++ C).map fun a : Nat => D.int a) none (some 12) = ((r0 ++ C).take 12).map fun a : Nat => D.int a := cut_map_to 12
    rw [e12]
    refine wa_cons ?_
    refine w_name 4 rfl (.inl rfl) rfl ?_
    refine wa_nil ?_
    refine ⟨ns, c3, q, ip, asks, x1, R, (r0 ++ C).take 12, rfl, by walk_at "pen", by omega, hR, List.length_take_le _ _, fun a h => ?_, by omega, fun an c4 μ4 hal han ha8 hc4 e4 => ?_⟩
    · rcases List.mem_append.mp (List.mem_of_mem_take h) with h | h
      · exact hra a h
      · exact hCa a h
    simp only [List.set_set] at e4
    subst e4
    have htok : TOk asks ((r0 ++ C).take 12, an) := ⟨hal, by show 0 < ((r0 ++ C).take 12).length; rw [List.length_take, List.length_append]; omega, List.length_take_le _ _, fun a h => by rcases List.mem_append.mp (List.mem_of_mem_take h) with h | h; exact hra a h; exact hCa a h, ha8⟩
    have hS2 := hS.app htok
    have hC2 := hC.app (t := ((r0 ++ C).take 12, an)) han
    refine wa_nil ?_
    refine ⟨by simp, ?_⟩
    refine o_addL (by rw [List.length_map]; show _ + 1 ≤ _; omega) ?_
    have eS : D.lst (S.map toldD ++ [toldD ((r0 ++ C).take 12, an)]) = .lst ((S ++ [((r0 ++ C).take 12, an)]).map toldD) := by rw [List.map_append]; rfl
    rw [eS]
    -- if len(_law_begun(_law_more)) <= _law_most:
    refine w_cons (w_if ?_)
    refine wt_cmp ?_
    refine w_callB (id := "len") T.b_len ?_
    refine wa_cons ?_
    refine w_callG G__law_begun hr ?_
    refine wa_cons ?_
    refine w_name 12 rfl (.inl rfl) rfl ?_
    refine wa_nil ?_
    refine ⟨S ++ [((r0 ++ C).take 12, an)], asks, rfl, hS2, by rw [List.length_append]; show _ + 1 ≤ _; omega, ?_⟩
    refine wa_nil ?_
    refine c_lenL ?_
    rw [List.length_map]
    refine w_name 3 rfl (.inl rfl) rfl ?_
    walk_at "LtE"
    refine ⟨_, rfl, ?_⟩
    refine ⟨fun hb => ?_, fun hb => ?_⟩
    · -- _law_sheet_here = _law_more
      refine w_cons (w_set 7 sc__law_sheet.nd rfl (.inl rfl) (.inl rfl) ?_)
      refine w_name 12 rfl (.inl rfl) rfl ?_
      refine w_nil ?_
      refine w_nil ?_
      exact ⟨[_, _, _, _, _], rfl, ⟨S ++ [((r0 ++ C).take 12, an)], c4, _, _, _, _, hS2, hC2, (by rw [List.length_append]; show _ + 1 ≤ _; omega), (by have := of_decide_eq_true hb; omega), (by omega), rfl, rfl⟩⟩
    · refine w_nil ?_
      refine w_nil ?_
      exact ⟨[_, _, _, _, _], rfl, ⟨S, c4, _, _, _, _, hS, hC, (by omega), hB, (by omega), rfl, rfl⟩⟩
  rintro vs μ' ⟨S, c, w8, w9, w12, w10, hS, hC, hl, hB, hc, rfl, rfl⟩
  refine wSs_rho (ρ' := [_, _, _, _, _, _, _, _, _, _, _, _, _]) rfl ?_
  -- return _law_sheet_here
  refine w_cons (w_ret ?_)
  refine w_name 7 rfl (.inl rfl) rfl ?_
  exact k S c _ hS hC hl hB (by omega) rfl
end
end L37

namespace L37
open PySem PySem.Spec L2 Oc
open Evl (Ex)
local macro_rules | `(tactic| walk_at "s") => `(tactic| first | assumption | omega | decide | (simp only [] at *; omega))
local macro_rules | `(tactic| walk_at "Add") => `(tactic| first | refine o_addN ?_ | refine o_add ?_ | refine o_addS (by walk_at "s") ?_ | refine o_addT (by walk_at "s") ?_ | refine o_addL (by walk_at "s") ?_)
local macro_rules | `(tactic| walk_at "Sub") => `(tactic| refine o_sub ?_)
local macro_rules | `(tactic| walk_at "Mult") => `(tactic| refine o_mul (by walk_at "s") ?_)
local macro_rules | `(tactic| walk_at "Mod") => `(tactic| first | refine o_modN (by walk_at "s") ?_ | refine o_mod (by walk_at "s") ?_)
local macro_rules | `(tactic| walk_at "FloorDiv") => `(tactic| first | refine o_divN (by walk_at "s") ?_ | refine o_div (by walk_at "s") ?_)
local macro_rules | `(tactic| walk_at "Pow") => `(tactic| refine o_pow (by walk_at "s") ?_)
local macro_rules | `(tactic| walk_at "LShift") => `(tactic| refine o_shl (by walk_at "s") ?_)
local macro_rules | `(tactic| walk_at "RShift") => `(tactic| refine o_shr (by walk_at "s") ?_)
local macro_rules | `(tactic| walk_at "BitAnd") => `(tactic| refine o_band ?_)
local macro_rules | `(tactic| walk_at "BitXor") => `(tactic| refine o_bxor ?_)
local macro_rules | `(tactic| walk_at "BitOr") => `(tactic| refine o_bor ?_)
local macro_rules | `(tactic| walk_at "Lt") => `(tactic| refine o_lt ?_)
local macro_rules | `(tactic| walk_at "LtE") => `(tactic| refine o_le ?_)
local macro_rules | `(tactic| walk_at "Gt") => `(tactic| refine o_gt ?_)
local macro_rules | `(tactic| walk_at "GtE") => `(tactic| refine o_ge ?_)
local macro_rules | `(tactic| walk_at "Eq") => `(tactic| refine o_eq (by rfl) ?_)
local macro_rules | `(tactic| walk_at "NotEq") => `(tactic| refine o_ne (by rfl) ?_)
local macro_rules | `(tactic| walk_at "Is") => `(tactic| refine o_isN ?_)
local macro_rules | `(tactic| walk_at "IsNot") => `(tactic| refine o_notN ?_)
local macro_rules | `(tactic| walk_at "In") => `(tactic| refine o_in (by first | exact .inl rfl | exact .inr (.inl rfl) | exact .inr (.inr rfl)) (by rfl) (by rfl) ?_)
local macro_rules | `(tactic| walk_at "NotIn") => `(tactic| refine o_nin (by first | exact .inl rfl | exact .inr (.inl rfl) | exact .inr (.inr rfl)) (by rfl) (by rfl) ?_)
local macro_rules | `(tactic| walk_at "c_abs") => `(tactic| refine c_abs ?_)
local macro_rules | `(tactic| walk_at "c_len") => `(tactic| first | refine c_lenL ?_ | refine c_lenC ?_ | refine c_lenT ?_ | refine c_lenS (by walk_at "s") ?_ | refine c_lenP 0 (by first | assumption | rfl) ?_)
local macro_rules | `(tactic| walk_at "c_str") => `(tactic| refine c_str (by walk_at "s") ?_)
local macro_rules | `(tactic| walk_at "c_isinstance") => `(tactic| refine c_isi rfl (by rfl) ?_)
local macro_rules | `(tactic| walk_at "sl") => `(tactic| first | refine sd_tup ?_ | refine sd_lst ?_)
local macro_rules | `(tactic| walk_at "c_tuple") => `(tactic| first | refine c_tupL ?_ | refine c_tupP 0 (by first | assumption | rfl) ?_ | refine c_tupT ?_)
local macro_rules | `(tactic| walk_at "c_int") => `(tactic| first | refine c_intB ?_)
local macro_rules | `(tactic| walk_at "USub") => `(tactic| refine u_neg ?_)
local macro_rules | `(tactic| walk_at "pen") => `(tactic| first | assumption | exact get_set (by assumption) | exact get_set (get_set (by assumption)) | exact get_here | (apply get_cons; walk_at "pen") | (apply get_app; walk_at "pen"))
local macro_rules | `(tactic| walk_at "mu") => `(tactic| simp only [List.set_cons_succ, List.set_set, List.set_cons_zero])
/-! ### k37: the law's own look -/
def aheadL (S : List Told) (i p : Nat) (h : List Nat) : List (Option Nat) := ((S.take i).filter fun t' => decide (t'.1.take (p + 1) = h)).map fun t' => t'.2.getD p none
def othB (x o : Option Nat) : Bool := o.isSome && !(D.eqf (optD o) (optD x))
def clB (S : List Told) (i p : Nat) (t : Told) : Bool := (t.2.getD p none).isSome && !((aheadL S i p (t.1.take (p + 1))).filter (othB (t.2.getD p none))).isEmpty
theorem othB_iff {x o : Option Nat} : othB x o = true ↔ ∃ b, o = some b ∧ x ≠ some b := by
  unfold othB
  cases o with
  | none => simp
  | some b =>
    cases x with
    | none => simp [optD, D.eqf]
    | some a =>
      simp only [optD, D.eqf, Option.isSome_some, Bool.true_and, Bool.not_eq_true', beq_eq_false_iff_ne, ne_eq, Option.some.injEq]
      constructor
      · intro z
        exact ⟨b, rfl, fun e => z (by rw [e])⟩
      · rintro ⟨c, e1, e2⟩ z
        subst e1
        exact e2 (by omega)
theorem clB_iff {S : List Told} {asks i p : Nat} {t : Told} (hS : SOk asks S) (e : S[i]? = some t) (hp : p < t.1.length) : clB S i p t = true ↔ ClashAt S i p := by
  have ht := hS _ (List.mem_of_getElem? e)
  unfold clB
  rw [Bool.and_eq_true]
  constructor
  · rintro ⟨h1, h2⟩
    obtain ⟨a, ha⟩ := Option.isSome_iff_exists.mp h1
    have ha' : t.2[p]? = some (some a) := by
      rw [List.getD_eq_getElem?_getD, List.getElem?_eq_getElem (by rw [ht.len]; exact hp)] at ha
      rw [List.getElem?_eq_getElem (by rw [ht.len]; exact hp)]
      exact congrArg some ha
    obtain ⟨o, ho⟩ : ∃ o, o ∈ (aheadL S i p (t.1.take (p + 1))).filter (othB (t.2.getD p none)) := by
      cases z : (aheadL S i p (t.1.take (p + 1))).filter (othB (t.2.getD p none)) with
      | nil => rw [z] at h2; cases h2
      | cons o l => exact ⟨o, List.mem_cons_self⟩
    obtain ⟨ho1, ho2⟩ := List.mem_filter.mp ho
    obtain ⟨b, rfl, hne⟩ := othB_iff.mp ho2
    unfold aheadL at ho1
    obtain ⟨t', hm, e2⟩ := List.mem_map.mp ho1
    obtain ⟨hm1, hm2⟩ := List.mem_filter.mp hm
    have hm2 := of_decide_eq_true hm2
    obtain ⟨j, hj0, ej⟩ := List.mem_iff_getElem.mp hm1
    obtain ⟨hj, hjS⟩ := take_ix (S := S) (i := i) (j := j) (t := t') (by rw [List.getElem?_eq_getElem hj0, ej])
    have hb' : t'.2[p]? = some (some b) := by
      cases z : t'.2[p]? with
      | none => rw [List.getD_eq_getElem?_getD, z] at e2; cases e2
      | some o => rw [List.getD_eq_getElem?_getD, z] at e2; exact congrArg some e2
    exact ⟨t, a, e, ha', j, t', b, hj, hjS, hb', hm2, fun z => hne (by rw [ha, z])⟩
  · rintro ⟨t1, a, e1, ea, j, t', b, hj, e3, e4, e5, hne⟩
    rw [e] at e1
    cases e1
    have ga : t.2.getD p none = some a := by rw [List.getD_eq_getElem?_getD, ea]; rfl
    have gb : t'.2.getD p none = some b := by rw [List.getD_eq_getElem?_getD, e4]; rfl
    refine ⟨by rw [ga]; rfl, ?_⟩
    have hm : some b ∈ (aheadL S i p (t.1.take (p + 1))).filter (othB (t.2.getD p none)) := List.mem_filter.mpr ⟨List.mem_map.mpr ⟨t', List.mem_filter.mpr ⟨List.mem_of_getElem? (i := j) (by rw [List.getElem?_take_of_lt hj]; exact e3), decide_eq_true e5⟩, gb⟩, othB_iff.mpr ⟨b, rfl, by rw [ga]; exact fun z => hne (Option.some.inj z).symm⟩⟩
    cases z : (aheadL S i p (t.1.take (p + 1))).filter (othB (t.2.getD p none)) with
    | nil => rw [z] at hm; cases hm
    | cons o l => rfl
def dueD (S : List Told) : Option (Nat × Nat) → D
  | some (i, p) => .lst [.str "clash", .int i, .int p]
  | none => if 24 < (begF S).length then .lst [.str "many"] else .lst [.str "told"]
def S_due37 : FS := fun ds μ Φ => ∃ (S : List Told) (asks : Nat), ds = [.lst (S.map toldD)] ∧ SOk asks S ∧ S.length ≤ 1000 ∧ ∀ o, DueC S o → Φ (dueD S o) μ
/-! ### what is caught -/
def flagM : List (Str × Bool) := [("many", true), ("closed", false), ("unlike", false), ("full", false), ("unreached", false), ("clash", false), ("words", false), ("open", false), ("back", false), ("text", false), ("name", false), ("line", false)]
def flagC : List (Str × Bool) := [("many", false), ("closed", false), ("unlike", false), ("full", false), ("unreached", false), ("clash", true), ("words", false), ("open", false), ("back", false), ("text", false), ("name", false), ("line", false)]
def wfD (p : Str × Bool) : D := .tup [.str p.1, .bl p.2]
def Sc_wordsM (cs : Cs) : FS := fun ds μ Φ => ∃ (x : Addr) (μ0 : Mu), ds = [.ptr x] ∧ μ = (x, .exc cs.TooMany [] []) :: μ0 ∧ Φ (.lst [.str "many"]) μ
def Sc_wordsC (cs : Cs) : FS := fun ds μ Φ => ∃ (x : Addr) (μ0 : Mu) (i p : Nat), ds = [.ptr x] ∧ μ = (x, .exc cs.Clash ["place", "row"] [.int p, .int i]) :: μ0 ∧ Φ (.lst [.str "clash"]) μ
inductive Ref37 (cs : Cs) (S : List Told) (o : Option (Nat × Nat)) : Addr → List Str → List D → Bool → Prop
  | many : o = none → 24 < (begF S).length → Ref37 cs S o cs.TooMany [] [] false
  | clash (i p : Nat) : o = some (i, p) → Ref37 cs S o cs.Clash ["place", "row"] [.int p, .int i] true
theorem c_isC37 {X : Cy} {cs : Cs} {S : List Told} {o : Option (Nat × Nat)} {a C : Addr} {ks : List Str} {vs : List D} {b : Bool} {μ : Mu} {Φ : D → Mu → Prop} (TC : Tc X.K X.mg cs) (h : Ref37 cs S o C ks vs b) (k : Φ (.bl b) ((a, .exc C ks vs) :: μ)) : wCl X (.builtin "isinstance") [.ptr a, .ptr cs.Clash] ((a, .exc C ks vs) :: μ) Φ := by
  cases h with
  | many _ _ => exact c_isE 0 rfl (tc_e_TooMany TC) (.own _) TC.i_TooMany_Clash k
  | clash i p _ => exact c_isEF 0 rfl (by decide) (tc_e_Clash TC) (.own _) TC.i_Clash_Clash k
/-- tree_of, or least_of where it is refused, heard -/
def Scm_heardT (cs : Cs) (mg : Str → Option Value) : FS := fun ds μ Φ => ∃ (g : Addr) (S : List Told) (asks few : Nat) (o : Option (Nat × Nat)), ds = [.ptr g, .int asks, .lst (S.map toldD)] ∧ mg "tree_of" = some (.ref g) ∧ SOk few S ∧ S.length ≤ 1000 ∧ asks ≤ 4 ∧ DueC S o ∧ Φ (dueD S o) μ
def Scm_heardL (cs : Cs) (mg : Str → Option Value) : FS := fun ds μ Φ => ∃ (g : Addr) (S : List Told) (asks few : Nat) (o : Option (Nat × Nat)), ds = [.ptr g, .int asks, .lst (S.map toldD)] ∧ mg "least_of" = some (.ref g) ∧ SOk few S ∧ S.length ≤ 1000 ∧ asks ≤ 4 ∧ DueC S o ∧ (o = none → 24 < (begF S).length) ∧ Φ (dueD S o) μ
def S_leastofX (cs : Cs) : FX := fun ds μ Φ Ψ => ∃ (S : List Told) (asks few : Nat) (d : D) (o : Option (Nat × Nat)), ds = [.int asks, d] ∧ LV d μ (S.map toldD) ∧ SOk few S ∧ S.length ≤ 1000 ∧ asks ≤ 4 ∧ DueC S o ∧ (o = none → 24 < (begF S).length) ∧ (∀ d μ1, False → Φ d μ1) ∧
  (o = none → 24 < (begF S).length → Ψ cs.TooMany [] [] μ) ∧ (∀ i p : Nat, o = some (i, p) → Ψ cs.Clash ["place", "row"] [.int p, .int i] μ)
def S_bent37 : FS := fun ds μ Φ => ∃ (S : List Told) (asks s0 s1 s2 s3 s4 s5 many : Nat), ds = [.lst (S.map toldD), .lst [.int s0, .int s1, .int s2, .int s3, .int s4, .int s5], .int many] ∧ SOk asks S ∧ S.length ≤ 24 ∧ S ≠ [] ∧ s2 < 8 ∧ s5 < 8 ∧ (0 < many ∧ many ≤ 2) ∧
  ∀ S', SOk asks S' → S'.length ≤ 1000 → Φ (.lst (S'.map toldD)) μ
def Sc_mright (cs : Cs) : FS := fun ds μ Φ => ∃ (i p : Nat), ds = [.int i, .int p] ∧ Φ (.bl true) μ
theorem ans_put {asks : Nat} {row : List Nat} {an : List (Option Nat)} {s a : Nat} (h : TOk asks (row, an)) (ha : a < 8) : TOk asks (row, an.take (s % row.length) ++ [some a] ++ an.drop (s % row.length + 1)) := by
  have hl := h.len
  have hp := h.pos
  have hm := Nat.mod_lt s hp
  refine ⟨?_, h.pos, h.le, h.ask, fun o ho x e => ?_⟩
  · show (an.take (s % row.length) ++ [some a] ++ an.drop (s % row.length + 1)).length = row.length
    have hl : an.length = row.length := hl
    have hm : s % row.length < row.length := hm
    rw [List.length_append, List.length_append, List.length_take, List.length_drop, hl]
    show min _ _ + 1 + _ = _
    omega
  · have ho : o ∈ an.take (s % row.length) ++ [some a] ++ an.drop (s % row.length + 1) := ho
    rw [List.mem_append, List.mem_append, List.mem_singleton] at ho
    rcases ho with (ho | ho) | ho
    · exact h.ans o (List.mem_of_mem_take ho) x e
    · rw [ho] at e
      cases e
      exact ha
    · exact h.ans o (List.mem_of_mem_drop ho) x e
section
variable {P : Program} {w : World} {K : PySem.W.Frag} {mg : Str → Option Value} {base : Heap}
theorem ok_due (B : Src K mg "_law_due" s__law_due ["_law_sheet_here"]) (T : Tx mg) (G__law_begun : KnG P w K mg base 1 "_law_begun" ["_law_sheet_here"] S_begun) : KnG P w K mg base 3 "_law_due" ["_law_sheet_here"] S_due37 := by
  refine kn_ofG B sc__law_due (fun ds μ Φ h => by obtain ⟨_, _, rfl, _⟩ := h; rfl) fun f cdv A outer s H E grd hr ds μ Φ h => ?_
  obtain ⟨S, asks, rfl, hS, hl, k⟩ := h
  refine wSs_rho (ρ' := [_, _, _, _, _, _, _, _, _, _, _]) rfl ?_
  -- for _law_number, _law_told_row_here in enumerate(_law_sheet_here):
  refine w_cons (w_forV [1, 2, 3, 4, 5, 6, 7] ?_ PassesOwn.never rfl)
  refine wi_enumL T.b_enumerate ?_
  refine w_name 0 rfl (.inl rfl) rfl ?_
  refine ⟨_, rfl, ?_⟩
  refine ⟨_, fun i vs μ' => ∃  (w1 w2 w3 w4 w5 w6 w7 : Option D), (∀ j p9, j < i → ¬ ClashAt S j p9) ∧ vs = [w1, w2, w3, w4, w5, w6, w7] ∧ μ = μ', (by first | exact nats_len | exact nats2_len | exact enumD_len.trans (List.length_map _) | exact enumD_len | exact List.length_map _ | exact rfl | simp), ⟨_, _, _, _, _, _, _, (fun j p9 h => absurd h (Nat.not_lt_zero _)), rfl, rfl⟩, ?_, ?_⟩
  · rintro number x vs μ' hx ⟨w1, w2, w3, w4, w5, w6, w7, hnc, rfl, rfl⟩
    refine wG_rho (ρ' := [_, _, _, _, _, _, _, _, _, _, _]) rfl ?_
    obtain ⟨told_row_here, htold_row_here, rfl⟩ := enum_get' hx
    have htm := List.mem_of_getElem? htold_row_here
    have ht := hS _ htm
    have htl := ht.len
    have htle := ht.le
    first | refine wg_tup rfl rfl ?_ | refine wg_lst rfl rfl ?_
    refine wgs_cons ?_
    refine wg_name 1 sc__law_due.nd rfl (.inl rfl) (.inl rfl) ?_
    refine wgs_cons ?_
    refine wg_name 2 sc__law_due.nd rfl (.inl rfl) (.inl rfl) ?_
    refine wgs_nil ?_
    -- _law_row, _law_answers = _law_told_row_here
    refine w_cons (w_asg ?_)
    refine w_name 2 rfl (.inl rfl) rfl ?_
    first | refine wg_tup rfl rfl ?_ | refine wg_lst rfl rfl ?_
    refine wgs_cons ?_
    refine wg_name 3 sc__law_due.nd rfl (.inl rfl) (.inl rfl) ?_
    refine wgs_cons ?_
    refine wg_name 4 sc__law_due.nd rfl (.inr rfl) (.inl rfl) ?_
    refine wgs_nil ?_
    -- for _law_place in range(len(_law_row)):
    refine w_cons (w_forV [5, 6, 7] ?_ PassesOwn.never rfl)
    refine wi_rngN T.b_range ?_
    refine w_callB (id := "len") T.b_len ?_
    refine wa_cons ?_
    refine w_name 3 rfl (.inl rfl) rfl ?_
    refine wa_nil ?_
    walk_at "c_len"
    try rw [List.length_map]
    refine ⟨_, by rfl, by omega, ?_⟩
    refine ⟨_, fun i vs μ' => ∃  (w5 w6 w7 : Option D), (∀ p9, p9 < i → ¬ ClashAt S number p9) ∧ vs = [w5, w6, w7] ∧ μ = μ', (by first | exact nats_len | exact nats2_len | exact enumD_len.trans (List.length_map _) | exact enumD_len | exact List.length_map _ | exact rfl | simp), ⟨_, _, _, (fun p9 h => absurd h (Nat.not_lt_zero _)), rfl, rfl⟩, ?_, ?_⟩
    · rintro place x vs μ' hx ⟨w5, w6, w7, hn2, rfl, rfl⟩
      refine wG_rho (ρ' := [_, _, _, _, _, _, _, _, _, _, _]) rfl ?_
      obtain ⟨hplace, rfl⟩ := nats_get hx
      have hpl : place < told_row_here.1.length := by first | exact hplace | simpa using hplace
      obtain ⟨ox, hox⟩ : ∃ ox, told_row_here.2[place]? = some ox := ⟨_, List.getElem?_eq_getElem (by rw [htl]; exact hpl)⟩
      have hgd : told_row_here.2.getD place none = ox := by rw [List.getD_eq_getElem?_getD, hox]; rfl
      refine wg_name 5 sc__law_due.nd rfl (.inr rfl) (.inl rfl) ?_
      -- _law_here = _law_row[:_law_place + 1]
      refine w_cons (w_set 6 sc__law_due.nd rfl (.inr rfl) (.inl rfl) ?_)
      refine w_sl ?_
      refine w_name 3 rfl (.inl rfl) rfl ?_
      refine wo_none ?_
      refine wo_some ?_
      refine w_bin ?_
      refine w_name 5 rfl (.inr (.inl rfl)) rfl ?_
      refine w_int ?_
      first | refine o_addN (b := 1) ?_ | walk_at "Add"
      refine ⟨_, rfl, ?_⟩
      refine sd_tup ?_
      rw [cut_map_to]
      -- _law_ahead = [_law_some[_law_place] for _law_other, _law_some in _law_sheet_here[:_law_number] if _law_other[:_law_place + 1] == _law_here]
      refine w_cons (w_setLc (own := [("_law_other", 8), ("_law_some", 9)]) 7 (.two 8 9) (by decide) rfl sc__law_due.nd rfl rfl (blkOk_by (N := N__law_due) (sc := defScope s__law_due) (by decide +kernel)) (sw_true rfl rfl rfl (by decide +kernel)) (fun _ _ _ _ _ => pg_tup rfl (pgs_cons (pg_name (i := 8) sc__law_due.nd rfl (by first | exact .inl rfl | exact .inr rfl)) (pgs_cons (pg_name (i := 9) sc__law_due.nd rfl (by first | exact .inl rfl | exact .inr rfl)) pgs_nil))) ?_)
      refine lcW_of ?_
      refine wi_lst ?_
      refine w_sl ?_
      refine w_name 0 rfl (.inl rfl) rfl ?_
      refine wo_none ?_
      refine wo_some ?_
      refine w_name 1 rfl (.inl rfl) rfl ?_
      refine ⟨_, rfl, ?_⟩
      refine sd_lst ?_
      rw [cut_map_to]
      refine ⟨_, rfl, ?_⟩
      refine lcq_filt ((S.take number)) _ ((fun t' => decide (t'.1.take (place + 1) = told_row_here.1.take (place + 1)))) ((fun t' => optD (t'.2.getD place none))) rfl (by first | omega | (simp only [List.length_map, List.length_range]; omega) | (simp; omega) | simp) ?_ ?_
      · intro p_e ie e he
        refine ⟨[_, _, _, _, _, _, _, _, _, _, _], rfl, fun _ _ _ _ _ => ?_, fun hq _ _ _ _ _ => ?_⟩
        · refine wt_cmp ?_
          refine w_sl ?_
          refine w_name 8 rfl (.inl rfl) rfl ?_
          refine wo_none ?_
          refine wo_some ?_
          refine w_bin ?_
          refine w_name 5 rfl (.inr (.inl rfl)) rfl ?_
          refine w_int ?_
          first | refine o_addN (b := 1) ?_ | walk_at "Add"
          refine ⟨_, rfl, ?_⟩
          refine sd_tup ?_
          rw [cut_map_to]
          refine w_name 6 rfl (.inr (.inl rfl)) rfl ?_
          refine o_eqY hr.units (ly_rw _) (ly_rw _) ?_
          rw [eqv_rows]
          refine ⟨_, rfl, ?_⟩
          exact ⟨rfl, rfl⟩
        refine w_ix ?_
        refine w_name 9 rfl (.inl rfl) rfl ?_
        refine w_name 5 rfl (.inr (.inl rfl)) rfl ?_
        have he5 := of_decide_eq_true hq
        have hte := hS _ (List.mem_of_mem_take (List.mem_of_getElem? he))
        have hpe : place < e.2.length := by
          have := congrArg List.length he5
          rw [List.length_take, List.length_take] at this
          have := hte.len
          omega
        refine ix_tupD _ rfl (map_at (List.getElem?_eq_getElem hpe)) ?_
        exact ⟨by rw [List.getD_eq_getElem?_getD, List.getElem?_eq_getElem hpe]; rfl, rfl⟩
      intro p_c
      refine ⟨_, _, _, rfl, rfl, .inl ?_⟩
      rw [show List.map (fun t' : Told => optD (t'.2.getD place none)) ((S.take number).filter fun t' => decide (t'.1.take (place + 1) = told_row_here.1.take (place + 1))) = (aheadL S number place (told_row_here.1.take (place + 1))).map optD from by unfold aheadL; rw [List.map_map]; rfl]
      have hal : (aheadL S number place (told_row_here.1.take (place + 1))).length ≤ S.length := by
        unfold aheadL
        rw [List.length_map]
        exact Nat.le_trans (List.length_filter_le _ _) (List.length_take_le' _ _)
      -- _law_ahead = [_law_answer for _law_answer in _law_ahead if _law_answer is not None and _law_answer != _law_answers[_law_place]]
      refine w_cons (w_setLc (own := [("_law_answer", 10)]) 7 (.one 10) (by decide) rfl sc__law_due.nd rfl rfl (blkOk_by (N := N__law_due) (sc := defScope s__law_due) (by decide +kernel)) (sw_true rfl rfl rfl (by decide +kernel)) (fun _ _ _ _ _ => pg_name (i := 10) sc__law_due.nd rfl (by first | exact .inl rfl | exact .inr rfl)) ?_)
      refine lcW_of ?_
      refine wi_lst ?_
      refine w_name 7 rfl (.inl rfl) rfl ?_
      refine ⟨_, rfl, ?_⟩
      refine lcq_filt ((aheadL S number place (told_row_here.1.take (place + 1)))) _ ((othB ox)) (optD) rfl (by first | omega | (simp only [List.length_map, List.length_range]; omega) | (simp; omega) | simp) ?_ ?_
      · intro p_answer ianswer answer hanswer
        refine ⟨[_, _, _, _, _, _, _, _, _, _, _], rfl, fun _ _ _ _ _ => ?_, fun hq _ _ _ _ _ => ?_⟩
        · refine wt_b ((othB ox answer)) ?_ ?_
          · refine wt_w ?_
            refine ww_and ?_
            refine wt_cmp ?_
            refine w_name 10 rfl (.inl rfl) rfl ?_
            refine w_non ?_
            refine o_notN ?_
            refine ⟨_, rfl, ?_⟩
            refine ⟨fun hb0 => ?_, fun hb0 => ⟨(by cases answer with | none => rfl | some b => cases hb0), rfl⟩⟩
            refine ww_and1 ?_
            refine wt_cmp ?_
            refine w_name 10 rfl (.inl rfl) rfl ?_
            refine w_ix ?_
            refine w_name 4 rfl (.inr (.inl rfl)) rfl ?_
            refine w_name 5 rfl (.inr (.inl rfl)) rfl ?_
            refine ix_tupD _ rfl (map_at hox) ?_
            refine o_ne (by cases answer <;> cases ox <;> rfl) ?_
            refine ⟨_, rfl, ?_⟩
            exact ⟨(by cases answer with | none => cases hb0 | some b => rfl), rfl⟩
          exact ⟨rfl, rfl⟩
        refine w_name 10 rfl (.inl rfl) rfl ?_
        exact ⟨rfl, rfl⟩
      intro p_c
      refine ⟨_, _, _, rfl, rfl, .inl ?_⟩
      -- if _law_answers[_law_place] is not None and _law_ahead != []:
      refine w_cons (w_if ?_)
      refine wt_b ((clB S number place told_row_here)) ?_ ?_
      · refine wt_w ?_
        refine ww_and ?_
        refine wt_cmp ?_
        refine w_ix ?_
        refine w_name 4 rfl (.inr (.inl rfl)) rfl ?_
        refine w_name 5 rfl (.inr (.inl rfl)) rfl ?_
        refine ix_tupD _ rfl (map_at hox) ?_
        refine w_non ?_
        refine o_notN ?_
        refine ⟨_, rfl, ?_⟩
        refine ⟨fun hb0 => ?_, fun hb0 => ⟨(by unfold clB; rw [hgd]; cases ox with | none => rfl | some a => cases hb0), rfl⟩⟩
        refine ww_and1 ?_
        refine wt_cmp ?_
        refine w_name 7 rfl (.inl rfl) rfl ?_
        refine w_lst ?_
        refine wa_nil ?_
        refine ⟨by simp, ?_⟩
        refine o_neY hr.units (Ly.lst (Lys.map fun o _ => ly_opt o)) (Ly.lst Lys.nil) ?_
        rw [eqv_lnil, List.isEmpty_map]
        refine ⟨_, rfl, ?_⟩
        exact ⟨(by unfold clB; rw [hgd]; cases ox with | none => cases hb0 | some a => rfl), rfl⟩
      refine ⟨fun hb => ?_, fun hb => ?_⟩
      · -- return ['clash', _law_number, _law_place]
        refine w_cons (w_ret ?_)
        refine w_lst ?_
        refine wa_cons ?_
        refine w_str ?_
        refine wa_cons ?_
        refine w_name 1 rfl (.inl rfl) rfl ?_
        refine wa_cons ?_
        refine w_name 5 rfl (.inr (.inl rfl)) rfl ?_
        refine wa_nil ?_
        refine ⟨by simp, ?_⟩
        exact k (some (number, place)) (.inr ⟨number, place, rfl, (clB_iff hS htold_row_here hpl).mp hb, fun j p9 hj => hj.elim (hnc j p9) fun ⟨e1, e2⟩ => e1 ▸ hn2 p9 e2⟩)
      refine w_nil ?_
      refine w_nil ?_
      have hnp : ¬ ClashAt S number place := fun z => by rw [(clB_iff hS htold_row_here hpl).mpr z] at hb; cases hb
      exact ⟨[_, _, _], rfl, ⟨_, _, _, (fun p9 h => by rcases Nat.lt_succ_iff_lt_or_eq.mp h with h | rfl; exact hn2 p9 h; exact hnp), rfl, rfl⟩⟩
    rintro vs μ' ⟨w5, w6, w7, hn2, rfl, rfl⟩
    refine wSs_rho (ρ' := [_, _, _, _, _, _, _, _, _, _, _]) rfl ?_
    refine w_nil ?_
    exact ⟨[_, _, _, _, _, _, _], rfl, ⟨_, _, _, _, _, _, _, (fun j p9 h => by rcases Nat.lt_succ_iff_lt_or_eq.mp h with h | rfl; exact hnc j p9 h; exact (Nat.lt_or_ge p9 told_row_here.1.length).elim (hn2 p9) (fun z => clash_out htold_row_here (by rw [htl]; exact z))), rfl, rfl⟩⟩
  rintro vs μ' ⟨w1, w2, w3, w4, w5, w6, w7, hnc, rfl, rfl⟩
  refine wSs_rho (ρ' := [_, _, _, _, _, _, _, _, _, _, _]) rfl ?_
  have hD : DueC S none := .inl ⟨rfl, fun i p9 => (Nat.lt_or_ge i S.length).elim (hnc i p9) clash_row⟩
  have k := k none hD
  -- return ['many'] if len(_law_begun(_law_sheet_here)) > 24 else ['told']
  refine w_cons (w_ret ?_)
  refine w_mono (Ψ := (fun d μ1 => d = dueD S none ∧ μ1 = μ)) ?_ ?_
  · refine w_ifx ?_
    refine wt_cmp ?_
    refine w_callB (id := "len") T.b_len ?_
    refine wa_cons ?_
    refine w_callG G__law_begun hr ?_
    refine wa_cons ?_
    refine w_name 0 rfl (.inl rfl) rfl ?_
    refine wa_nil ?_
    refine ⟨S, asks, rfl, hS, hl, ?_⟩
    refine wa_nil ?_
    refine c_lenL ?_
    rw [List.length_map]
    refine w_int ?_
    walk_at "Gt"
    refine ⟨_, rfl, ?_⟩
    refine ⟨fun hb => ?_, fun hb => ?_⟩
    · refine w_lst ?_
      refine wa_cons ?_
      refine w_str ?_
      refine wa_nil ?_
      refine ⟨by simp, ?_⟩
      exact ⟨by unfold dueD; rw [if_pos (by have := of_decide_eq_true hb; omega)], rfl⟩
    · refine w_lst ?_
      refine wa_cons ?_
      refine w_str ?_
      refine wa_nil ?_
      refine ⟨by simp, ?_⟩
      exact ⟨by unfold dueD; rw [if_neg (by have := of_decide_eq_false hb; omega)], rfl⟩
  rintro d μ1 ⟨rfl, rfl⟩
  exact k
theorem ok_wordsM (B : Src K mg "_law_words" s__law_words ["_law_caught"]) (T : Tx mg) {cs : Cs} (TC : Tc K mg cs)  : KnG P w K mg base 1 "_law_words" ["_law_caught"] (Sc_wordsM cs) := by
  refine kn_ofG B sc__law_words (fun ds μ Φ h => by obtain ⟨_, _, rfl, _⟩ := h; rfl) fun f cdv A outer s H E grd hr ds μ Φ h => ?_
  obtain ⟨x, μ0, rfl, rfl, k⟩ := h
  have hfw : flagM.length = 12 := rfl
  refine wSs_rho (ρ' := [_, _, _, _]) rfl ?_
  -- _law_flags = [('many', isinstance(_law_caught, TooMany)), ('closed', isinstance(_law_caught, NotClosed))]
  refine w_cons (w_set 1 sc__law_words.nd rfl (.inl rfl) (.inl rfl) ?_)
  refine w_lst ?_
  refine wa_cons ?_
  refine w_tup ?_
  refine wa_cons ?_
  refine w_str ?_
  refine wa_cons ?_
  refine w_callB (id := "isinstance") T.b_isinstance ?_
  refine wa_cons ?_
  refine w_name 0 rfl (.inl rfl) rfl ?_
  refine wa_cons ?_
  refine w_cls TC.g_TooMany ?_
  refine wa_nil ?_
  refine c_isE 0 rfl (tc_e_TooMany TC) (.own _) TC.i_TooMany_TooMany ?_
  refine wa_nil ?_
  refine ⟨by simp, ?_⟩
  refine wa_cons ?_
  refine w_tup ?_
  refine wa_cons ?_
  refine w_str ?_
  refine wa_cons ?_
  refine w_callB (id := "isinstance") T.b_isinstance ?_
  refine wa_cons ?_
  refine w_name 0 rfl (.inl rfl) rfl ?_
  refine wa_cons ?_
  refine w_cls TC.g_NotClosed ?_
  refine wa_nil ?_
  refine c_isE 0 rfl (tc_e_TooMany TC) (.own _) TC.i_TooMany_NotClosed ?_
  refine wa_nil ?_
  refine ⟨by simp, ?_⟩
  refine wa_nil ?_
  refine ⟨by simp, ?_⟩
  -- _law_flags = _law_flags + [('unlike', isinstance(_law_caught, Unlike)), ('full', isinstance(_law_caught, NotFull))]
  refine w_cons (w_set 1 sc__law_words.nd rfl (.inl rfl) (.inl rfl) ?_)
  refine w_bin ?_
  refine w_name 1 rfl (.inl rfl) rfl ?_
  refine w_lst ?_
  refine wa_cons ?_
  refine w_tup ?_
  refine wa_cons ?_
  refine w_str ?_
  refine wa_cons ?_
  refine w_callB (id := "isinstance") T.b_isinstance ?_
  refine wa_cons ?_
  refine w_name 0 rfl (.inl rfl) rfl ?_
  refine wa_cons ?_
  refine w_cls TC.g_Unlike ?_
  refine wa_nil ?_
  refine c_isE 0 rfl (tc_e_TooMany TC) (.own _) TC.i_TooMany_Unlike ?_
  refine wa_nil ?_
  refine ⟨by simp, ?_⟩
  refine wa_cons ?_
  refine w_tup ?_
  refine wa_cons ?_
  refine w_str ?_
  refine wa_cons ?_
  refine w_callB (id := "isinstance") T.b_isinstance ?_
  refine wa_cons ?_
  refine w_name 0 rfl (.inl rfl) rfl ?_
  refine wa_cons ?_
  refine w_cls TC.g_NotFull ?_
  refine wa_nil ?_
  refine c_isE 0 rfl (tc_e_TooMany TC) (.own _) TC.i_TooMany_NotFull ?_
  refine wa_nil ?_
  refine ⟨by simp, ?_⟩
  refine wa_nil ?_
  refine ⟨by simp, ?_⟩
  refine o_addL (by decide) ?_
  -- _law_flags = _law_flags + [('unreached', isinstance(_law_caught, Unreached)), ('clash', isinstance(_law_caught, Clash))]
  refine w_cons (w_set 1 sc__law_words.nd rfl (.inl rfl) (.inl rfl) ?_)
  refine w_bin ?_
  refine w_name 1 rfl (.inl rfl) rfl ?_
  refine w_lst ?_
  refine wa_cons ?_
  refine w_tup ?_
  refine wa_cons ?_
  refine w_str ?_
  refine wa_cons ?_
  refine w_callB (id := "isinstance") T.b_isinstance ?_
  refine wa_cons ?_
  refine w_name 0 rfl (.inl rfl) rfl ?_
  refine wa_cons ?_
  refine w_cls TC.g_Unreached ?_
  refine wa_nil ?_
  refine c_isE 0 rfl (tc_e_TooMany TC) (.own _) TC.i_TooMany_Unreached ?_
  refine wa_nil ?_
  refine ⟨by simp, ?_⟩
  refine wa_cons ?_
  refine w_tup ?_
  refine wa_cons ?_
  refine w_str ?_
  refine wa_cons ?_
  refine w_callB (id := "isinstance") T.b_isinstance ?_
  refine wa_cons ?_
  refine w_name 0 rfl (.inl rfl) rfl ?_
  refine wa_cons ?_
  refine w_cls TC.g_Clash ?_
  refine wa_nil ?_
  refine c_isE 0 rfl (tc_e_TooMany TC) (.own _) TC.i_TooMany_Clash ?_
  refine wa_nil ?_
  refine ⟨by simp, ?_⟩
  refine wa_nil ?_
  refine ⟨by simp, ?_⟩
  refine o_addL (by decide) ?_
  -- _law_flags = _law_flags + [('words', isinstance(_law_caught, NoWords)), ('open', isinstance(_law_caught, NotOpen))]
  refine w_cons (w_set 1 sc__law_words.nd rfl (.inl rfl) (.inl rfl) ?_)
  refine w_bin ?_
  refine w_name 1 rfl (.inl rfl) rfl ?_
  refine w_lst ?_
  refine wa_cons ?_
  refine w_tup ?_
  refine wa_cons ?_
  refine w_str ?_
  refine wa_cons ?_
  refine w_callB (id := "isinstance") T.b_isinstance ?_
  refine wa_cons ?_
  refine w_name 0 rfl (.inl rfl) rfl ?_
  refine wa_cons ?_
  refine w_cls TC.g_NoWords ?_
  refine wa_nil ?_
  refine c_isE 0 rfl (tc_e_TooMany TC) (.own _) TC.i_TooMany_NoWords ?_
  refine wa_nil ?_
  refine ⟨by simp, ?_⟩
  refine wa_cons ?_
  refine w_tup ?_
  refine wa_cons ?_
  refine w_str ?_
  refine wa_cons ?_
  refine w_callB (id := "isinstance") T.b_isinstance ?_
  refine wa_cons ?_
  refine w_name 0 rfl (.inl rfl) rfl ?_
  refine wa_cons ?_
  refine w_cls TC.g_NotOpen ?_
  refine wa_nil ?_
  refine c_isE 0 rfl (tc_e_TooMany TC) (.own _) TC.i_TooMany_NotOpen ?_
  refine wa_nil ?_
  refine ⟨by simp, ?_⟩
  refine wa_nil ?_
  refine ⟨by simp, ?_⟩
  refine o_addL (by decide) ?_
  -- _law_flags = _law_flags + [('back', isinstance(_law_caught, NoBack)), ('text', isinstance(_law_caught, NoText))]
  refine w_cons (w_set 1 sc__law_words.nd rfl (.inl rfl) (.inl rfl) ?_)
  refine w_bin ?_
  refine w_name 1 rfl (.inl rfl) rfl ?_
  refine w_lst ?_
  refine wa_cons ?_
  refine w_tup ?_
  refine wa_cons ?_
  refine w_str ?_
  refine wa_cons ?_
  refine w_callB (id := "isinstance") T.b_isinstance ?_
  refine wa_cons ?_
  refine w_name 0 rfl (.inl rfl) rfl ?_
  refine wa_cons ?_
  refine w_cls TC.g_NoBack ?_
  refine wa_nil ?_
  refine c_isE 0 rfl (tc_e_TooMany TC) (.own _) TC.i_TooMany_NoBack ?_
  refine wa_nil ?_
  refine ⟨by simp, ?_⟩
  refine wa_cons ?_
  refine w_tup ?_
  refine wa_cons ?_
  refine w_str ?_
  refine wa_cons ?_
  refine w_callB (id := "isinstance") T.b_isinstance ?_
  refine wa_cons ?_
  refine w_name 0 rfl (.inl rfl) rfl ?_
  refine wa_cons ?_
  refine w_cls TC.g_NoText ?_
  refine wa_nil ?_
  refine c_isE 0 rfl (tc_e_TooMany TC) (.own _) TC.i_TooMany_NoText ?_
  refine wa_nil ?_
  refine ⟨by simp, ?_⟩
  refine wa_nil ?_
  refine ⟨by simp, ?_⟩
  refine o_addL (by decide) ?_
  -- _law_flags = _law_flags + [('name', isinstance(_law_caught, NoName)), ('line', isinstance(_law_caught, NoLine))]
  refine w_cons (w_set 1 sc__law_words.nd rfl (.inl rfl) (.inl rfl) ?_)
  refine w_bin ?_
  refine w_name 1 rfl (.inl rfl) rfl ?_
  refine w_lst ?_
  refine wa_cons ?_
  refine w_tup ?_
  refine wa_cons ?_
  refine w_str ?_
  refine wa_cons ?_
  refine w_callB (id := "isinstance") T.b_isinstance ?_
  refine wa_cons ?_
  refine w_name 0 rfl (.inl rfl) rfl ?_
  refine wa_cons ?_
  refine w_cls TC.g_NoName ?_
  refine wa_nil ?_
  refine c_isE 0 rfl (tc_e_TooMany TC) (.own _) TC.i_TooMany_NoName ?_
  refine wa_nil ?_
  refine ⟨by simp, ?_⟩
  refine wa_cons ?_
  refine w_tup ?_
  refine wa_cons ?_
  refine w_str ?_
  refine wa_cons ?_
  refine w_callB (id := "isinstance") T.b_isinstance ?_
  refine wa_cons ?_
  refine w_name 0 rfl (.inl rfl) rfl ?_
  refine wa_cons ?_
  refine w_cls TC.g_NoLine ?_
  refine wa_nil ?_
  refine c_isE 0 rfl (tc_e_TooMany TC) (.own _) TC.i_TooMany_NoLine ?_
  refine wa_nil ?_
  refine ⟨by simp, ?_⟩
  refine wa_nil ?_
  refine ⟨by simp, ?_⟩
  refine o_addL (by decide) ?_
  -- return [_law_word for _law_word, _law_flag in _law_flags if _law_flag] + ['no value'] * int(not isinstance(_law_caught, ValueError))
  refine w_cons (w_ret ?_)
  refine w_bin ?_
  -- comp [_law_word for _law_word, _law_flag in _law_flags if _law_flag]
  refine w_fz0 (w_lcM (own := [("_law_word", 2), ("_law_flag", 3)]) (.two 2 3) (by decide) rfl sc__law_words.nd (blkOk_by (N := N__law_words) (sc := defScope s__law_words) (by decide +kernel)) (fun _ _ _ _ _ => pg_tup rfl (pgs_cons (pg_name (i := 2) sc__law_words.nd rfl (by first | exact .inl rfl | exact .inr rfl)) (pgs_cons (pg_name (i := 3) sc__law_words.nd rfl (by first | exact .inl rfl | exact .inr rfl)) pgs_nil))) ?_)
  refine lcW_of ?_
  refine wi_lst ?_
  refine w_name 1 rfl (.inl rfl) rfl ?_
  refine ⟨_, rfl, ?_⟩
  refine (show LcQ _ _ _ _ _ _ _ _ (flagM.map wfD) _ from ?_)
  refine lcq_filt (flagM) _ ((fun p => p.2)) ((fun p => D.str p.1)) rfl (by first | omega | (simp only [List.length_map, List.length_range]; omega) | (simp; omega) | simp) ?_ ?_
  · intro p_e ie e he
    refine ⟨[_, _, _, _], rfl, fun _ _ _ _ _ => ?_, fun hq _ _ _ _ _ => ?_⟩
    · refine wt_val ?_
      refine w_name 3 rfl (.inl rfl) rfl ?_
      refine ⟨_, rfl, ?_⟩
      exact ⟨rfl, rfl⟩
    refine w_name 2 rfl (.inl rfl) rfl ?_
    exact ⟨rfl, rfl⟩
  intro p_c
  refine ⟨_, _, _, rfl, rfl, ?_⟩
  refine w_bin ?_
  refine w_lst ?_
  refine wa_cons ?_
  refine w_str ?_
  refine wa_nil ?_
  refine ⟨by simp, ?_⟩
  refine w_callTy (T := "int") T.b_int ?_
  refine wa_cons ?_
  refine w_notV ?_
  refine w_callB (id := "isinstance") T.b_isinstance ?_
  refine wa_cons ?_
  refine w_name 0 rfl (.inl rfl) rfl ?_
  refine wa_cons ?_
  refine w_ty (n := "ValueError") T.b_ValueError ?_
  refine wa_nil ?_
  refine c_isE 0 rfl (tc_e_TooMany TC) (.ty _) TC.iv_TooMany ?_
  refine ⟨_, rfl, ?_⟩
  refine wa_nil ?_
  walk_at "c_int"
  refine o_repF (by decide) (by decide) ?_
  refine o_addL (by decide) ?_
  exact k
end
section
variable {P : Program} {w : World} {K : PySem.W.Frag} {mg : Str → Option Value} {base : Heap}
theorem ok_wordsC (B : Src K mg "_law_words" s__law_words ["_law_caught"]) (T : Tx mg) {cs : Cs} (TC : Tc K mg cs)  : KnG P w K mg base 1 "_law_words" ["_law_caught"] (Sc_wordsC cs) := by
  refine kn_ofG B sc__law_words (fun ds μ Φ h => by obtain ⟨_, _, _, _, rfl, _⟩ := h; rfl) fun f cdv A outer s H E grd hr ds μ Φ h => ?_
  obtain ⟨x, μ0, i, p, rfl, rfl, k⟩ := h
  have hfw : flagC.length = 12 := rfl
  refine wSs_rho (ρ' := [_, _, _, _]) rfl ?_
  -- _law_flags = [('many', isinstance(_law_caught, TooMany)), ('closed', isinstance(_law_caught, NotClosed))]
  refine w_cons (w_set 1 sc__law_words.nd rfl (.inl rfl) (.inl rfl) ?_)
  refine w_lst ?_
  refine wa_cons ?_
  refine w_tup ?_
  refine wa_cons ?_
  refine w_str ?_
  refine wa_cons ?_
  refine w_callB (id := "isinstance") T.b_isinstance ?_
  refine wa_cons ?_
  refine w_name 0 rfl (.inl rfl) rfl ?_
  refine wa_cons ?_
  refine w_cls TC.g_TooMany ?_
  refine wa_nil ?_
  refine c_isEF 0 rfl (by decide) (tc_e_Clash TC) (.own _) TC.i_Clash_TooMany ?_
  refine wa_nil ?_
  refine ⟨by simp, ?_⟩
  refine wa_cons ?_
  refine w_tup ?_
  refine wa_cons ?_
  refine w_str ?_
  refine wa_cons ?_
  refine w_callB (id := "isinstance") T.b_isinstance ?_
  refine wa_cons ?_
  refine w_name 0 rfl (.inl rfl) rfl ?_
  refine wa_cons ?_
  refine w_cls TC.g_NotClosed ?_
  refine wa_nil ?_
  refine c_isEF 0 rfl (by decide) (tc_e_Clash TC) (.own _) TC.i_Clash_NotClosed ?_
  refine wa_nil ?_
  refine ⟨by simp, ?_⟩
  refine wa_nil ?_
  refine ⟨by simp, ?_⟩
  -- _law_flags = _law_flags + [('unlike', isinstance(_law_caught, Unlike)), ('full', isinstance(_law_caught, NotFull))]
  refine w_cons (w_set 1 sc__law_words.nd rfl (.inl rfl) (.inl rfl) ?_)
  refine w_bin ?_
  refine w_name 1 rfl (.inl rfl) rfl ?_
  refine w_lst ?_
  refine wa_cons ?_
  refine w_tup ?_
  refine wa_cons ?_
  refine w_str ?_
  refine wa_cons ?_
  refine w_callB (id := "isinstance") T.b_isinstance ?_
  refine wa_cons ?_
  refine w_name 0 rfl (.inl rfl) rfl ?_
  refine wa_cons ?_
  refine w_cls TC.g_Unlike ?_
  refine wa_nil ?_
  refine c_isEF 0 rfl (by decide) (tc_e_Clash TC) (.own _) TC.i_Clash_Unlike ?_
  refine wa_nil ?_
  refine ⟨by simp, ?_⟩
  refine wa_cons ?_
  refine w_tup ?_
  refine wa_cons ?_
  refine w_str ?_
  refine wa_cons ?_
  refine w_callB (id := "isinstance") T.b_isinstance ?_
  refine wa_cons ?_
  refine w_name 0 rfl (.inl rfl) rfl ?_
  refine wa_cons ?_
  refine w_cls TC.g_NotFull ?_
  refine wa_nil ?_
  refine c_isEF 0 rfl (by decide) (tc_e_Clash TC) (.own _) TC.i_Clash_NotFull ?_
  refine wa_nil ?_
  refine ⟨by simp, ?_⟩
  refine wa_nil ?_
  refine ⟨by simp, ?_⟩
  refine o_addL (by decide) ?_
  -- _law_flags = _law_flags + [('unreached', isinstance(_law_caught, Unreached)), ('clash', isinstance(_law_caught, Clash))]
  refine w_cons (w_set 1 sc__law_words.nd rfl (.inl rfl) (.inl rfl) ?_)
  refine w_bin ?_
  refine w_name 1 rfl (.inl rfl) rfl ?_
  refine w_lst ?_
  refine wa_cons ?_
  refine w_tup ?_
  refine wa_cons ?_
  refine w_str ?_
  refine wa_cons ?_
  refine w_callB (id := "isinstance") T.b_isinstance ?_
  refine wa_cons ?_
  refine w_name 0 rfl (.inl rfl) rfl ?_
  refine wa_cons ?_
  refine w_cls TC.g_Unreached ?_
  refine wa_nil ?_
  refine c_isEF 0 rfl (by decide) (tc_e_Clash TC) (.own _) TC.i_Clash_Unreached ?_
  refine wa_nil ?_
  refine ⟨by simp, ?_⟩
  refine wa_cons ?_
  refine w_tup ?_
  refine wa_cons ?_
  refine w_str ?_
  refine wa_cons ?_
  refine w_callB (id := "isinstance") T.b_isinstance ?_
  refine wa_cons ?_
  refine w_name 0 rfl (.inl rfl) rfl ?_
  refine wa_cons ?_
  refine w_cls TC.g_Clash ?_
  refine wa_nil ?_
  refine c_isEF 0 rfl (by decide) (tc_e_Clash TC) (.own _) TC.i_Clash_Clash ?_
  refine wa_nil ?_
  refine ⟨by simp, ?_⟩
  refine wa_nil ?_
  refine ⟨by simp, ?_⟩
  refine o_addL (by decide) ?_
  -- _law_flags = _law_flags + [('words', isinstance(_law_caught, NoWords)), ('open', isinstance(_law_caught, NotOpen))]
  refine w_cons (w_set 1 sc__law_words.nd rfl (.inl rfl) (.inl rfl) ?_)
  refine w_bin ?_
  refine w_name 1 rfl (.inl rfl) rfl ?_
  refine w_lst ?_
  refine wa_cons ?_
  refine w_tup ?_
  refine wa_cons ?_
  refine w_str ?_
  refine wa_cons ?_
  refine w_callB (id := "isinstance") T.b_isinstance ?_
  refine wa_cons ?_
  refine w_name 0 rfl (.inl rfl) rfl ?_
  refine wa_cons ?_
  refine w_cls TC.g_NoWords ?_
  refine wa_nil ?_
  refine c_isEF 0 rfl (by decide) (tc_e_Clash TC) (.own _) TC.i_Clash_NoWords ?_
  refine wa_nil ?_
  refine ⟨by simp, ?_⟩
  refine wa_cons ?_
  refine w_tup ?_
  refine wa_cons ?_
  refine w_str ?_
  refine wa_cons ?_
  refine w_callB (id := "isinstance") T.b_isinstance ?_
  refine wa_cons ?_
  refine w_name 0 rfl (.inl rfl) rfl ?_
  refine wa_cons ?_
  refine w_cls TC.g_NotOpen ?_
  refine wa_nil ?_
  refine c_isEF 0 rfl (by decide) (tc_e_Clash TC) (.own _) TC.i_Clash_NotOpen ?_
  refine wa_nil ?_
  refine ⟨by simp, ?_⟩
  refine wa_nil ?_
  refine ⟨by simp, ?_⟩
  refine o_addL (by decide) ?_
  -- _law_flags = _law_flags + [('back', isinstance(_law_caught, NoBack)), ('text', isinstance(_law_caught, NoText))]
  refine w_cons (w_set 1 sc__law_words.nd rfl (.inl rfl) (.inl rfl) ?_)
  refine w_bin ?_
  refine w_name 1 rfl (.inl rfl) rfl ?_
  refine w_lst ?_
  refine wa_cons ?_
  refine w_tup ?_
  refine wa_cons ?_
  refine w_str ?_
  refine wa_cons ?_
  refine w_callB (id := "isinstance") T.b_isinstance ?_
  refine wa_cons ?_
  refine w_name 0 rfl (.inl rfl) rfl ?_
  refine wa_cons ?_
  refine w_cls TC.g_NoBack ?_
  refine wa_nil ?_
  refine c_isEF 0 rfl (by decide) (tc_e_Clash TC) (.own _) TC.i_Clash_NoBack ?_
  refine wa_nil ?_
  refine ⟨by simp, ?_⟩
  refine wa_cons ?_
  refine w_tup ?_
  refine wa_cons ?_
  refine w_str ?_
  refine wa_cons ?_
  refine w_callB (id := "isinstance") T.b_isinstance ?_
  refine wa_cons ?_
  refine w_name 0 rfl (.inl rfl) rfl ?_
  refine wa_cons ?_
  refine w_cls TC.g_NoText ?_
  refine wa_nil ?_
  refine c_isEF 0 rfl (by decide) (tc_e_Clash TC) (.own _) TC.i_Clash_NoText ?_
  refine wa_nil ?_
  refine ⟨by simp, ?_⟩
  refine wa_nil ?_
  refine ⟨by simp, ?_⟩
  refine o_addL (by decide) ?_
  -- _law_flags = _law_flags + [('name', isinstance(_law_caught, NoName)), ('line', isinstance(_law_caught, NoLine))]
  refine w_cons (w_set 1 sc__law_words.nd rfl (.inl rfl) (.inl rfl) ?_)
  refine w_bin ?_
  refine w_name 1 rfl (.inl rfl) rfl ?_
  refine w_lst ?_
  refine wa_cons ?_
  refine w_tup ?_
  refine wa_cons ?_
  refine w_str ?_
  refine wa_cons ?_
  refine w_callB (id := "isinstance") T.b_isinstance ?_
  refine wa_cons ?_
  refine w_name 0 rfl (.inl rfl) rfl ?_
  refine wa_cons ?_
  refine w_cls TC.g_NoName ?_
  refine wa_nil ?_
  refine c_isEF 0 rfl (by decide) (tc_e_Clash TC) (.own _) TC.i_Clash_NoName ?_
  refine wa_nil ?_
  refine ⟨by simp, ?_⟩
  refine wa_cons ?_
  refine w_tup ?_
  refine wa_cons ?_
  refine w_str ?_
  refine wa_cons ?_
  refine w_callB (id := "isinstance") T.b_isinstance ?_
  refine wa_cons ?_
  refine w_name 0 rfl (.inl rfl) rfl ?_
  refine wa_cons ?_
  refine w_cls TC.g_NoLine ?_
  refine wa_nil ?_
  refine c_isEF 0 rfl (by decide) (tc_e_Clash TC) (.own _) TC.i_Clash_NoLine ?_
  refine wa_nil ?_
  refine ⟨by simp, ?_⟩
  refine wa_nil ?_
  refine ⟨by simp, ?_⟩
  refine o_addL (by decide) ?_
  -- return [_law_word for _law_word, _law_flag in _law_flags if _law_flag] + ['no value'] * int(not isinstance(_law_caught, ValueError))
  refine w_cons (w_ret ?_)
  refine w_bin ?_
  -- comp [_law_word for _law_word, _law_flag in _law_flags if _law_flag]
  refine w_fz0 (w_lcM (own := [("_law_word", 2), ("_law_flag", 3)]) (.two 2 3) (by decide) rfl sc__law_words.nd (blkOk_by (N := N__law_words) (sc := defScope s__law_words) (by decide +kernel)) (fun _ _ _ _ _ => pg_tup rfl (pgs_cons (pg_name (i := 2) sc__law_words.nd rfl (by first | exact .inl rfl | exact .inr rfl)) (pgs_cons (pg_name (i := 3) sc__law_words.nd rfl (by first | exact .inl rfl | exact .inr rfl)) pgs_nil))) ?_)
  refine lcW_of ?_
  refine wi_lst ?_
  refine w_name 1 rfl (.inl rfl) rfl ?_
  refine ⟨_, rfl, ?_⟩
  refine (show LcQ _ _ _ _ _ _ _ _ (flagC.map wfD) _ from ?_)
  refine lcq_filt (flagC) _ ((fun p => p.2)) ((fun p => D.str p.1)) rfl (by first | omega | (simp only [List.length_map, List.length_range]; omega) | (simp; omega) | simp) ?_ ?_
  · intro p_e ie e he
    refine ⟨[_, _, _, _], rfl, fun _ _ _ _ _ => ?_, fun hq _ _ _ _ _ => ?_⟩
    · refine wt_val ?_
      refine w_name 3 rfl (.inl rfl) rfl ?_
      refine ⟨_, rfl, ?_⟩
      exact ⟨rfl, rfl⟩
    refine w_name 2 rfl (.inl rfl) rfl ?_
    exact ⟨rfl, rfl⟩
  intro p_c
  refine ⟨_, _, _, rfl, rfl, ?_⟩
  refine w_bin ?_
  refine w_lst ?_
  refine wa_cons ?_
  refine w_str ?_
  refine wa_nil ?_
  refine ⟨by simp, ?_⟩
  refine w_callTy (T := "int") T.b_int ?_
  refine wa_cons ?_
  refine w_notV ?_
  refine w_callB (id := "isinstance") T.b_isinstance ?_
  refine wa_cons ?_
  refine w_name 0 rfl (.inl rfl) rfl ?_
  refine wa_cons ?_
  refine w_ty (n := "ValueError") T.b_ValueError ?_
  refine wa_nil ?_
  refine c_isEF 0 rfl (by decide) (tc_e_Clash TC) (.ty _) TC.iv_Clash ?_
  refine ⟨_, rfl, ?_⟩
  refine wa_nil ?_
  walk_at "c_int"
  refine o_repF (by decide) (by decide) ?_
  refine o_addL (by decide) ?_
  exact k
theorem ok_leastF (B : Src K mg "least" s_least ["machine"]) : KnG P w K mg base 1 "least" ["machine"] (fun _ _ _ => False) := kn_ofG B sc_least (fun ds μ Φ h => h.elim) fun f cdv A outer s H E grd hr ds μ Φ h => h.elim
theorem ok_leastofX (B : Src K mg "least_of" s_least_of ["asks", "sheet"]) (T : Tx mg) {cs : Cs} (TC : Tc K mg cs) (G_tree_of : KnX P w K mg base 4 "tree_of" ["asks", "sheet"] (S_treeX cs)) (G_least : KnG P w K mg base 1 "least" ["machine"] (fun _ _ _ => False)) : KnX P w K mg base 5 "least_of" ["asks", "sheet"] (S_leastofX cs) := by
  refine kn_ofX B sc_least_of (fun ds μ Φ Ψ h => by obtain ⟨_, _, _, _, _, rfl, _⟩ := h; rfl) fun f cdv A outer s H E grd hr ds μ Φ Ψ h tk po => ?_
  obtain ⟨S, asks, few, d, o, rfl, hlv, hS, hl, ha, hD, hm, _, km, kx⟩ := h
  refine wSs_rho (ρ' := [_, _]) rfl ?_
  refine w_cons (w_ret ?_)
  refine w_callG G_least hr ?_
  refine wa_cons ?_
  refine w_callX G_tree_of tk hr ?_
  refine wa_cons ?_
  refine w_name 0 rfl (.inl rfl) rfl ?_
  refine wa_cons ?_
  refine w_name 1 rfl (.inl rfl) rfl ?_
  refine wa_nil ?_
  exact ⟨S, asks, few, d, o, rfl, hlv, hS, hl, ha, hD, fun ho hB => absurd (hm ho) (by omega), km, kx⟩
end
end L37

namespace L37
open PySem PySem.Spec L2 Oc
open Evl (Ex)
local macro_rules | `(tactic| walk_at "s") => `(tactic| first | assumption | omega | decide | (simp only [] at *; omega))
local macro_rules | `(tactic| walk_at "Add") => `(tactic| first | refine o_addN ?_ | refine o_add ?_ | refine o_addS (by walk_at "s") ?_ | refine o_addT (by walk_at "s") ?_ | refine o_addL (by walk_at "s") ?_)
local macro_rules | `(tactic| walk_at "Sub") => `(tactic| refine o_sub ?_)
local macro_rules | `(tactic| walk_at "Mult") => `(tactic| refine o_mul (by walk_at "s") ?_)
local macro_rules | `(tactic| walk_at "Mod") => `(tactic| first | refine o_modN (by walk_at "s") ?_ | refine o_mod (by walk_at "s") ?_)
local macro_rules | `(tactic| walk_at "FloorDiv") => `(tactic| first | refine o_divN (by walk_at "s") ?_ | refine o_div (by walk_at "s") ?_)
local macro_rules | `(tactic| walk_at "Pow") => `(tactic| refine o_pow (by walk_at "s") ?_)
local macro_rules | `(tactic| walk_at "LShift") => `(tactic| refine o_shl (by walk_at "s") ?_)
local macro_rules | `(tactic| walk_at "RShift") => `(tactic| refine o_shr (by walk_at "s") ?_)
local macro_rules | `(tactic| walk_at "BitAnd") => `(tactic| refine o_band ?_)
local macro_rules | `(tactic| walk_at "BitXor") => `(tactic| refine o_bxor ?_)
local macro_rules | `(tactic| walk_at "BitOr") => `(tactic| refine o_bor ?_)
local macro_rules | `(tactic| walk_at "Lt") => `(tactic| refine o_lt ?_)
local macro_rules | `(tactic| walk_at "LtE") => `(tactic| refine o_le ?_)
local macro_rules | `(tactic| walk_at "Gt") => `(tactic| refine o_gt ?_)
local macro_rules | `(tactic| walk_at "GtE") => `(tactic| refine o_ge ?_)
local macro_rules | `(tactic| walk_at "Eq") => `(tactic| refine o_eq (by rfl) ?_)
local macro_rules | `(tactic| walk_at "NotEq") => `(tactic| refine o_ne (by rfl) ?_)
local macro_rules | `(tactic| walk_at "Is") => `(tactic| refine o_isN ?_)
local macro_rules | `(tactic| walk_at "IsNot") => `(tactic| refine o_notN ?_)
local macro_rules | `(tactic| walk_at "In") => `(tactic| refine o_in (by first | exact .inl rfl | exact .inr (.inl rfl) | exact .inr (.inr rfl)) (by rfl) (by rfl) ?_)
local macro_rules | `(tactic| walk_at "NotIn") => `(tactic| refine o_nin (by first | exact .inl rfl | exact .inr (.inl rfl) | exact .inr (.inr rfl)) (by rfl) (by rfl) ?_)
local macro_rules | `(tactic| walk_at "c_abs") => `(tactic| refine c_abs ?_)
local macro_rules | `(tactic| walk_at "c_len") => `(tactic| first | refine c_lenL ?_ | refine c_lenC ?_ | refine c_lenT ?_ | refine c_lenS (by walk_at "s") ?_ | refine c_lenP 0 (by first | assumption | rfl) ?_)
local macro_rules | `(tactic| walk_at "c_str") => `(tactic| refine c_str (by walk_at "s") ?_)
local macro_rules | `(tactic| walk_at "c_isinstance") => `(tactic| refine c_isi rfl (by rfl) ?_)
local macro_rules | `(tactic| walk_at "sl") => `(tactic| first | refine sd_tup ?_ | refine sd_lst ?_)
local macro_rules | `(tactic| walk_at "c_tuple") => `(tactic| first | refine c_tupL ?_ | refine c_tupP 0 (by first | assumption | rfl) ?_ | refine c_tupT ?_)
local macro_rules | `(tactic| walk_at "c_int") => `(tactic| first | refine c_intB ?_)
local macro_rules | `(tactic| walk_at "USub") => `(tactic| refine u_neg ?_)
local macro_rules | `(tactic| walk_at "pen") => `(tactic| first | assumption | exact get_set (by assumption) | exact get_set (get_set (by assumption)) | exact get_here | (apply get_cons; walk_at "pen") | (apply get_app; walk_at "pen"))
local macro_rules | `(tactic| walk_at "mu") => `(tactic| simp only [List.set_cons_succ, List.set_set, List.set_cons_zero])
/-! ### k37: what is heard -/
theorem ly_w37 {s : Str} (h : PyData.strOk s = true := by decide +kernel) : Ly (.str s) 0 := ⟨rfl, h, Nat.le_refl _⟩
theorem ly_cl : Ly (.lst [.str "clash"]) 1 := Ly.lst (.cons ly_w37 .nil)
section
variable {P : Program} {w : World} {K : PySem.W.Frag} {mg : Str → Option Value} {base : Heap}
theorem ok_heardT (B : Src K mg "_law_heard" s__law_heard ["_law_which", "_law_asks", "_law_sheet_here"]) (T : Tx mg) {cs : Cs} (TC : Tc K mg cs) (G_tree_of : KnX P w K mg base 4 "tree_of" ["asks", "sheet"] (S_treeX cs)) (G_wordsM : KnG P w K mg base 1 "_law_words" ["_law_caught"] (Sc_wordsM cs)) (G_wordsC : KnG P w K mg base 1 "_law_words" ["_law_caught"] (Sc_wordsC cs)) : KnG P w K mg base 6 "_law_heard" ["_law_which", "_law_asks", "_law_sheet_here"] (Scm_heardT cs mg) := by
  refine kn_ofG B sc__law_heard (fun ds μ Φ h => by obtain ⟨_, _, _, _, _, rfl, _⟩ := h; rfl) fun f cdv A outer s H E grd hr ds μ Φ h => ?_
  obtain ⟨g, S, asks, few, o, rfl, hmg, hS, hl, ha, hD, k⟩ := h
  refine wSs_rho (ρ' := [_, _, _, _, _, _, _]) rfl ?_
  -- _law_caught = None
  refine w_cons (w_set 3 sc__law_heard.nd rfl (.inl rfl) (.inl rfl) ?_)
  refine w_non ?_
  -- try
  refine w_cutV [3, 4] (fun vs μ' => ∃ (cd : D) (mm : Mu) (w4 : Option D), ((o = none ∧ (begF S).length ≤ 24 ∧ cd = .non ∧ μ = mm) ∨ ∃ (a C : Addr) (ks : List Str) (vs : List D) (b : Bool), Ref37 cs S o C ks vs b ∧ cd = .ptr a ∧ mm = (a, .exc C ks vs) :: μ) ∧ vs = [some (cd), w4] ∧ mm = μ') (w_try1 4 (fun C ks vs μ' => (∃ b, Ref37 cs S o C ks vs b) ∧ μ = μ') sc__law_heard.nd rfl rfl ⟨rfl, rfl, .inl TC.g_CellError⟩ (fun pn xe g tk po => ?_) ?_) ?_
  · -- _law_which(_law_asks, _law_sheet_here)
    refine w_cons (w_expr ?_)
    refine w_callPX 0 G_tree_of tk hr rfl hmg ?_
    refine wa_cons ?_
    refine w_name 1 rfl (.inl rfl) rfl ?_
    refine wa_cons ?_
    refine w_name 2 rfl (.inl rfl) rfl ?_
    refine wa_nil ?_
    refine ⟨S, asks, few, _, o, rfl, .inl rfl, hS, hl, ha, hD, fun ho hB => ?_, fun ho hB => ⟨rfl, ⟨false, .many ho hB⟩, rfl⟩, fun i p ho => ⟨rfl, ⟨true, .clash i p ho⟩, rfl⟩⟩
    refine w_nil ?_
    exact ⟨[_, _], rfl, ⟨.non, μ, _, .inl ⟨ho, hB, rfl, rfl⟩, rfl, rfl⟩⟩
  · rintro C ks vs μ' ⟨⟨b, hb⟩, rfl⟩
    refine ⟨by cases hb; exact TC.m_TooMany_CellError; exact TC.m_Clash_CellError, fun a oe pn => ?_⟩
    -- _law_caught = e
    refine w_cons (w_set 3 sc__law_heard.nd rfl (.inl rfl) (.inl rfl) ?_)
    refine w_name 4 rfl (.inl rfl) rfl ?_
    refine w_nil ?_
    exact ⟨[_, _], rfl, ⟨.ptr a, (a, .exc C ks vs) :: μ, _, .inr ⟨a, C, ks, vs, b, hb, rfl, rfl⟩, rfl, rfl⟩⟩
  rintro vs μ' ⟨cd, mm, w4, hR, rfl, rfl⟩
  refine wSs_rho (ρ' := [_, _, _, _, _, _, _]) rfl ?_
  -- if _law_caught is None:
  refine w_cons (w_if ?_)
  refine wt_cmp ?_
  refine w_name 3 rfl (.inl rfl) rfl ?_
  refine w_non ?_
  walk_at "Is"
  refine ⟨_, rfl, ?_⟩
  refine ⟨fun hb => ?_, fun hb => ?_⟩
  obtain ⟨ho, hB, rfl, rfl⟩ : o = none ∧ (begF S).length ≤ 24 ∧ cd = .non ∧ μ = mm := by
    rcases hR with h | ⟨a, C, ks, vs, b, _, rfl, _⟩
    · exact h
    · cases hb
  rotate_left
  obtain ⟨a, C, ks, vs, b, hRf, rfl, rfl⟩ := hR.resolve_left fun ⟨_, _, z, _⟩ => by rw [z] at hb; cases hb
  rotate_left
  · -- return ['told']
    refine w_cons (w_ret ?_)
    refine w_lst ?_
    refine wa_cons ?_
    refine w_str ?_
    refine wa_nil ?_
    refine ⟨by simp, ?_⟩
    have e : dueD S o = .lst [.str "told"] := by rw [ho]; unfold dueD; rw [if_neg (by omega)]
    rw [e] at k
    exact k
  refine w_nil ?_
  -- if isinstance(_law_caught, Clash):
  refine w_cons (w_if ?_)
  refine wt_val ?_
  refine w_callB (id := "isinstance") T.b_isinstance ?_
  refine wa_cons ?_
  refine w_name 3 rfl (.inl rfl) rfl ?_
  refine wa_cons ?_
  refine w_cls TC.g_Clash ?_
  refine wa_nil ?_
  refine c_isC37 TC hRf ?_
  refine ⟨_, rfl, ?_⟩
  refine ⟨fun hb => ?_, fun hb => ?_⟩
  obtain ⟨i, p, ho, rfl, rfl, rfl⟩ : ∃ i p : Nat, o = some (i, p) ∧ C = cs.Clash ∧ ks = (["place", "row"] : List Str) ∧ vs = [D.int p, D.int i] := by
    cases hRf with
    | many _ _ => cases hb
    | clash i p ho => exact ⟨i, p, ho, rfl, rfl, rfl⟩
  rotate_left
  obtain ⟨ho, hB, rfl, rfl, rfl⟩ : o = none ∧ 24 < (begF S).length ∧ C = cs.TooMany ∧ ks = [] ∧ vs = [] := by
    cases hRf with
    | many h1 h2 => exact ⟨h1, h2, rfl, rfl, rfl⟩
    | clash i p ho => cases hb
  rotate_left
  · -- _law_fields = [_law_caught.row, _law_caught.place]
    refine w_cons (w_set 5 sc__law_heard.nd rfl (.inl rfl) (.inl rfl) ?_)
    refine w_lst ?_
    refine wa_cons ?_
    refine w_xf ?_
    refine w_name 3 rfl (.inl rfl) rfl ?_
    refine ⟨a, _, 0, _, _, _, rfl, rfl, by decide, tc_f_Clash TC, TC.of_Clash_row, rfl, ?_⟩
    refine wa_cons ?_
    refine w_xf ?_
    refine w_name 3 rfl (.inl rfl) rfl ?_
    refine ⟨a, _, 0, _, _, _, rfl, rfl, by decide, tc_f_Clash TC, TC.of_Clash_place, rfl, ?_⟩
    refine wa_nil ?_
    refine ⟨by simp, ?_⟩
    -- if True in [isinstance(_law_one, bool) or not isinstance(_law_one, int) for _law_one in _law_fields]:
    refine w_cons (w_if ?_)
    refine wt_cmp ?_
    refine w_bl ?_
    -- comp [isinstance(_law_one, bool) or not isinstance(_law_one, int) for _law_one in _law_fields]
    refine w_fz0 (w_lcM (own := [("_law_one", 6)]) (.one 6) (by decide) rfl sc__law_heard.nd (blkOk_by (N := N__law_heard) (sc := defScope s__law_heard) (by decide +kernel)) (fun _ _ _ _ _ => pg_name (i := 6) sc__law_heard.nd rfl (by first | exact .inl rfl | exact .inr rfl)) ?_)
    refine lcW_of ?_
    refine wi_lst ?_
    refine w_name 5 rfl (.inl rfl) rfl ?_
    refine ⟨_, rfl, ?_⟩
    refine (show LcQ _ _ _ _ _ _ _ _ ([i, p].map fun n : Nat => D.int n) _ from ?_)
    refine lcq_map ([i, p]) _ ((fun _ => D.bl false)) rfl (by first | omega | (simp only [List.length_map, List.length_range]; omega) | (simp; omega) | simp) ?_ ?_
    · intro p_one ione one hone
      refine ⟨[_, _, _, _, _, _, _], rfl, fun _ _ _ _ _ => ?_⟩
      refine w_orV ?_
      refine w_callB (id := "isinstance") T.b_isinstance ?_
      refine wa_cons ?_
      refine w_name 6 rfl (.inl rfl) rfl ?_
      refine wa_cons ?_
      refine w_ty (n := "bool") T.b_bool ?_
      refine wa_nil ?_
      walk_at "c_isinstance"
      refine ⟨_, rfl, fun hb0 => ?_, fun hb0 => (nomatch hb0)⟩
      refine w_orV1 ?_
      refine w_notV ?_
      refine w_callB (id := "isinstance") T.b_isinstance ?_
      refine wa_cons ?_
      refine w_name 6 rfl (.inl rfl) rfl ?_
      refine wa_cons ?_
      refine w_ty (n := "int") T.b_int ?_
      refine wa_nil ?_
      walk_at "c_isinstance"
      refine ⟨_, rfl, ?_⟩
      exact ⟨rfl, rfl⟩
    intro p_c
    refine ⟨_, _, _, rfl, rfl, ?_⟩
    walk_at "In"
    refine ⟨_, rfl, ?_⟩
    refine ⟨fun hb => ?_, fun hb => ?_⟩
    · cases hb
    refine w_nil ?_
    -- return _law_words(_law_caught) + _law_fields
    refine w_cons (w_ret (w_dr ?_))
    refine w_bin ?_
    refine w_callG G_wordsC hr ?_
    refine wa_cons ?_
    refine w_name 3 rfl (.inl rfl) rfl ?_
    refine wa_nil ?_
    refine ⟨a, μ, i, p, rfl, rfl, ?_⟩
    refine w_name 5 rfl (.inl rfl) rfl ?_
    refine o_addL (by simp) ?_
    have e : dueD S o = .lst [.str "clash", .int i, .int p] := by rw [ho]; rfl
    rw [e] at k
    exact ⟨_, List.sublist_cons_self _ _, k⟩
  refine w_nil ?_
  -- return _law_words(_law_caught)
  refine w_cons (w_ret (w_dr ?_))
  refine w_callG G_wordsM hr ?_
  refine wa_cons ?_
  refine w_name 3 rfl (.inl rfl) rfl ?_
  refine wa_nil ?_
  refine ⟨a, μ, rfl, rfl, ?_⟩
  have e : dueD S o = .lst [.str "many"] := by rw [ho]; unfold dueD; rw [if_pos hB]
  rw [e] at k
  exact ⟨_, List.sublist_cons_self _ _, k⟩
end
section
variable {P : Program} {w : World} {K : PySem.W.Frag} {mg : Str → Option Value} {base : Heap}
theorem ok_heardL (B : Src K mg "_law_heard" s__law_heard ["_law_which", "_law_asks", "_law_sheet_here"]) (T : Tx mg) {cs : Cs} (TC : Tc K mg cs) (G_least_of : KnX P w K mg base 5 "least_of" ["asks", "sheet"] (S_leastofX cs)) (G_wordsM : KnG P w K mg base 1 "_law_words" ["_law_caught"] (Sc_wordsM cs)) (G_wordsC : KnG P w K mg base 1 "_law_words" ["_law_caught"] (Sc_wordsC cs)) : KnG P w K mg base 6 "_law_heard" ["_law_which", "_law_asks", "_law_sheet_here"] (Scm_heardL cs mg) := by
  refine kn_ofG B sc__law_heard (fun ds μ Φ h => by obtain ⟨_, _, _, _, _, rfl, _⟩ := h; rfl) fun f cdv A outer s H E grd hr ds μ Φ h => ?_
  obtain ⟨g, S, asks, few, o, rfl, hmg, hS, hl, ha, hD, hmm, k⟩ := h
  refine wSs_rho (ρ' := [_, _, _, _, _, _, _]) rfl ?_
  -- _law_caught = None
  refine w_cons (w_set 3 sc__law_heard.nd rfl (.inl rfl) (.inl rfl) ?_)
  refine w_non ?_
  -- try
  refine w_cutV [3, 4] (fun vs μ' => ∃ (cd : D) (mm : Mu) (w4 : Option D), ((o = none ∧ (begF S).length ≤ 24 ∧ cd = .non ∧ μ = mm) ∨ ∃ (a C : Addr) (ks : List Str) (vs : List D) (b : Bool), Ref37 cs S o C ks vs b ∧ cd = .ptr a ∧ mm = (a, .exc C ks vs) :: μ) ∧ vs = [some (cd), w4] ∧ mm = μ') (w_try1 4 (fun C ks vs μ' => (∃ b, Ref37 cs S o C ks vs b) ∧ μ = μ') sc__law_heard.nd rfl rfl ⟨rfl, rfl, .inl TC.g_CellError⟩ (fun pn xe g tk po => ?_) ?_) ?_
  · -- _law_which(_law_asks, _law_sheet_here)
    refine w_cons (w_expr ?_)
    refine w_callPX 0 G_least_of tk hr rfl hmg ?_
    refine wa_cons ?_
    refine w_name 1 rfl (.inl rfl) rfl ?_
    refine wa_cons ?_
    refine w_name 2 rfl (.inl rfl) rfl ?_
    refine wa_nil ?_
    refine ⟨S, asks, few, _, o, rfl, .inl rfl, hS, hl, ha, hD, hmm, fun d μ1 hf => ?_, fun ho hB => ⟨rfl, ⟨false, .many ho hB⟩, rfl⟩, fun i p ho => ⟨rfl, ⟨true, .clash i p ho⟩, rfl⟩⟩
    refine w_nil ?_
    exact hf.elim
  · rintro C ks vs μ' ⟨⟨b, hb⟩, rfl⟩
    refine ⟨by cases hb; exact TC.m_TooMany_CellError; exact TC.m_Clash_CellError, fun a oe pn => ?_⟩
    -- _law_caught = e
    refine w_cons (w_set 3 sc__law_heard.nd rfl (.inl rfl) (.inl rfl) ?_)
    refine w_name 4 rfl (.inl rfl) rfl ?_
    refine w_nil ?_
    exact ⟨[_, _], rfl, ⟨.ptr a, (a, .exc C ks vs) :: μ, _, .inr ⟨a, C, ks, vs, b, hb, rfl, rfl⟩, rfl, rfl⟩⟩
  rintro vs μ' ⟨cd, mm, w4, hR, rfl, rfl⟩
  refine wSs_rho (ρ' := [_, _, _, _, _, _, _]) rfl ?_
  -- if _law_caught is None:
  refine w_cons (w_if ?_)
  refine wt_cmp ?_
  refine w_name 3 rfl (.inl rfl) rfl ?_
  refine w_non ?_
  walk_at "Is"
  refine ⟨_, rfl, ?_⟩
  refine ⟨fun hb => ?_, fun hb => ?_⟩
  obtain ⟨ho, hB, rfl, rfl⟩ : o = none ∧ (begF S).length ≤ 24 ∧ cd = .non ∧ μ = mm := by
    rcases hR with h | ⟨a, C, ks, vs, b, _, rfl, _⟩
    · exact h
    · cases hb
  rotate_left
  obtain ⟨a, C, ks, vs, b, hRf, rfl, rfl⟩ := hR.resolve_left fun ⟨_, _, z, _⟩ => by rw [z] at hb; cases hb
  rotate_left
  · -- return ['told']
    refine w_cons (w_ret ?_)
    refine w_lst ?_
    refine wa_cons ?_
    refine w_str ?_
    refine wa_nil ?_
    refine ⟨by simp, ?_⟩
    have e : dueD S o = .lst [.str "told"] := by rw [ho]; unfold dueD; rw [if_neg (by omega)]
    rw [e] at k
    exact k
  refine w_nil ?_
  -- if isinstance(_law_caught, Clash):
  refine w_cons (w_if ?_)
  refine wt_val ?_
  refine w_callB (id := "isinstance") T.b_isinstance ?_
  refine wa_cons ?_
  refine w_name 3 rfl (.inl rfl) rfl ?_
  refine wa_cons ?_
  refine w_cls TC.g_Clash ?_
  refine wa_nil ?_
  refine c_isC37 TC hRf ?_
  refine ⟨_, rfl, ?_⟩
  refine ⟨fun hb => ?_, fun hb => ?_⟩
  obtain ⟨i, p, ho, rfl, rfl, rfl⟩ : ∃ i p : Nat, o = some (i, p) ∧ C = cs.Clash ∧ ks = (["place", "row"] : List Str) ∧ vs = [D.int p, D.int i] := by
    cases hRf with
    | many _ _ => cases hb
    | clash i p ho => exact ⟨i, p, ho, rfl, rfl, rfl⟩
  rotate_left
  obtain ⟨ho, hB, rfl, rfl, rfl⟩ : o = none ∧ 24 < (begF S).length ∧ C = cs.TooMany ∧ ks = [] ∧ vs = [] := by
    cases hRf with
    | many h1 h2 => exact ⟨h1, h2, rfl, rfl, rfl⟩
    | clash i p ho => cases hb
  rotate_left
  · -- _law_fields = [_law_caught.row, _law_caught.place]
    refine w_cons (w_set 5 sc__law_heard.nd rfl (.inl rfl) (.inl rfl) ?_)
    refine w_lst ?_
    refine wa_cons ?_
    refine w_xf ?_
    refine w_name 3 rfl (.inl rfl) rfl ?_
    refine ⟨a, _, 0, _, _, _, rfl, rfl, by decide, tc_f_Clash TC, TC.of_Clash_row, rfl, ?_⟩
    refine wa_cons ?_
    refine w_xf ?_
    refine w_name 3 rfl (.inl rfl) rfl ?_
    refine ⟨a, _, 0, _, _, _, rfl, rfl, by decide, tc_f_Clash TC, TC.of_Clash_place, rfl, ?_⟩
    refine wa_nil ?_
    refine ⟨by simp, ?_⟩
    -- if True in [isinstance(_law_one, bool) or not isinstance(_law_one, int) for _law_one in _law_fields]:
    refine w_cons (w_if ?_)
    refine wt_cmp ?_
    refine w_bl ?_
    -- comp [isinstance(_law_one, bool) or not isinstance(_law_one, int) for _law_one in _law_fields]
    refine w_fz0 (w_lcM (own := [("_law_one", 6)]) (.one 6) (by decide) rfl sc__law_heard.nd (blkOk_by (N := N__law_heard) (sc := defScope s__law_heard) (by decide +kernel)) (fun _ _ _ _ _ => pg_name (i := 6) sc__law_heard.nd rfl (by first | exact .inl rfl | exact .inr rfl)) ?_)
    refine lcW_of ?_
    refine wi_lst ?_
    refine w_name 5 rfl (.inl rfl) rfl ?_
    refine ⟨_, rfl, ?_⟩
    refine (show LcQ _ _ _ _ _ _ _ _ ([i, p].map fun n : Nat => D.int n) _ from ?_)
    refine lcq_map ([i, p]) _ ((fun _ => D.bl false)) rfl (by first | omega | (simp only [List.length_map, List.length_range]; omega) | (simp; omega) | simp) ?_ ?_
    · intro p_one ione one hone
      refine ⟨[_, _, _, _, _, _, _], rfl, fun _ _ _ _ _ => ?_⟩
      refine w_orV ?_
      refine w_callB (id := "isinstance") T.b_isinstance ?_
      refine wa_cons ?_
      refine w_name 6 rfl (.inl rfl) rfl ?_
      refine wa_cons ?_
      refine w_ty (n := "bool") T.b_bool ?_
      refine wa_nil ?_
      walk_at "c_isinstance"
      refine ⟨_, rfl, fun hb0 => ?_, fun hb0 => (nomatch hb0)⟩
      refine w_orV1 ?_
      refine w_notV ?_
      refine w_callB (id := "isinstance") T.b_isinstance ?_
      refine wa_cons ?_
      refine w_name 6 rfl (.inl rfl) rfl ?_
      refine wa_cons ?_
      refine w_ty (n := "int") T.b_int ?_
      refine wa_nil ?_
      walk_at "c_isinstance"
      refine ⟨_, rfl, ?_⟩
      exact ⟨rfl, rfl⟩
    intro p_c
    refine ⟨_, _, _, rfl, rfl, ?_⟩
    walk_at "In"
    refine ⟨_, rfl, ?_⟩
    refine ⟨fun hb => ?_, fun hb => ?_⟩
    · cases hb
    refine w_nil ?_
    -- return _law_words(_law_caught) + _law_fields
    refine w_cons (w_ret (w_dr ?_))
    refine w_bin ?_
    refine w_callG G_wordsC hr ?_
    refine wa_cons ?_
    refine w_name 3 rfl (.inl rfl) rfl ?_
    refine wa_nil ?_
    refine ⟨a, μ, i, p, rfl, rfl, ?_⟩
    refine w_name 5 rfl (.inl rfl) rfl ?_
    refine o_addL (by simp) ?_
    have e : dueD S o = .lst [.str "clash", .int i, .int p] := by rw [ho]; rfl
    rw [e] at k
    exact ⟨_, List.sublist_cons_self _ _, k⟩
  refine w_nil ?_
  -- return _law_words(_law_caught)
  refine w_cons (w_ret (w_dr ?_))
  refine w_callG G_wordsM hr ?_
  refine wa_cons ?_
  refine w_name 3 rfl (.inl rfl) rfl ?_
  refine wa_nil ?_
  refine ⟨a, μ, rfl, rfl, ?_⟩
  have e : dueD S o = .lst [.str "many"] := by rw [ho]; unfold dueD; rw [if_pos hB]
  rw [e] at k
  exact ⟨_, List.sublist_cons_self _ _, k⟩
end
section
variable {P : Program} {w : World} {K : PySem.W.Frag} {mg : Str → Option Value} {base : Heap}
theorem ok_bent37 (B : Src K mg "_law_bent" s__law_bent ["_law_sheet_here", "_law_spots", "_law_many"]) (T : Tx mg)  : KnG P w K mg base 2 "_law_bent" ["_law_sheet_here", "_law_spots", "_law_many"] S_bent37 := by
  refine kn_ofG B sc__law_bent (fun ds μ Φ h => by obtain ⟨_, _, _, _, _, _, _, _, _, rfl, _⟩ := h; rfl) fun f cdv A outer s H E grd hr ds μ Φ h => ?_
  obtain ⟨S, asks, s0, s1, s2, s3, s4, s5, many, rfl, hS, hl, hne, h2, h5, hmany, k⟩ := h
  have hpos : 0 < S.length := List.length_pos_iff.mpr hne
  have hmod : s0 % S.length < S.length := Nat.mod_lt _ hpos
  obtain ⟨t, htS, htm⟩ := get_of_lt hmod
  have ht := hS t htm
  have htl := ht.len
  have htle := ht.le
  have htp := ht.pos
  refine wSs_rho (ρ' := [_, _, _, _, _, _, _, _, _]) rfl ?_
  -- _law_row, _law_answers = _law_sheet_here[_law_spots[0] % len(_law_sheet_here)]
  refine w_cons (w_asg ?_)
  refine w_ix ?_
  refine w_name 0 rfl (.inl rfl) rfl ?_
  refine w_bin ?_
  refine w_ix ?_
  refine w_name 1 rfl (.inl rfl) rfl ?_
  refine w_int ?_
  refine ix_lstD 0 rfl rfl ?_
  refine w_callB (id := "len") T.b_len ?_
  refine wa_cons ?_
  refine w_name 0 rfl (.inl rfl) rfl ?_
  refine wa_nil ?_
  refine c_lenL ?_
  rw [List.length_map]
  walk_at "Mod"
  refine ix_lstD _ rfl (map_at htS) ?_
  first | refine wg_tup rfl rfl ?_ | refine wg_lst rfl rfl ?_
  refine wgs_cons ?_
  refine wg_name 3 sc__law_bent.nd rfl (.inl rfl) (.inl rfl) ?_
  refine wgs_cons ?_
  refine wg_name 4 sc__law_bent.nd rfl (.inl rfl) (.inl rfl) ?_
  refine wgs_nil ?_
  -- for _law_place, _law_answer in ((_law_spots[1], _law_spots[2]), (_law_spots[4], _law_spots[5]))[:_law_many]:
  refine w_cons (w_forV [4, 5, 6, 7] ?_ PassesOwn.never rfl)
  refine wi_tup ?_
  refine w_sl ?_
  refine w_tup ?_
  refine wa_cons ?_
  refine w_tup ?_
  refine wa_cons ?_
  refine w_ix ?_
  refine w_name 1 rfl (.inl rfl) rfl ?_
  refine w_int ?_
  refine ix_lstD 1 rfl rfl ?_
  refine wa_cons ?_
  refine w_ix ?_
  refine w_name 1 rfl (.inl rfl) rfl ?_
  refine w_int ?_
  refine ix_lstD 2 rfl rfl ?_
  refine wa_nil ?_
  refine ⟨by simp, ?_⟩
  refine wa_cons ?_
  refine w_tup ?_
  refine wa_cons ?_
  refine w_ix ?_
  refine w_name 1 rfl (.inl rfl) rfl ?_
  refine w_int ?_
  refine ix_lstD 4 rfl rfl ?_
  refine wa_cons ?_
  refine w_ix ?_
  refine w_name 1 rfl (.inl rfl) rfl ?_
  refine w_int ?_
  refine ix_lstD 5 rfl rfl ?_
  refine wa_nil ?_
  refine ⟨by simp, ?_⟩
  refine wa_nil ?_
  refine ⟨by simp, ?_⟩
  refine wo_none ?_
  refine wo_some ?_
  refine w_name 2 rfl (.inl rfl) rfl ?_
  refine ⟨_, rfl, ?_⟩
  refine sd_tup ?_
  rw [show (Oc.cutD [D.tup [.int (s1 : Nat), .int (s2 : Nat)], .tup [.int (s4 : Nat), .int (s5 : Nat)]] none (some (many : Nat))) = ([(s1, s2), (s4, s5)].take many).map natP from cut_map_to (f := natP) (l := [(s1, s2), (s4, s5)]) many]
  refine ⟨_, rfl, ?_⟩
  refine ⟨_, fun i vs μ' => ∃ (an : List (Option Nat)) (w5 w6 w7 : Option D), (TOk asks (t.1, an)) ∧ vs = [some (ansD an), w5, w6, w7] ∧ μ = μ', (by first | exact nats_len | exact nats2_len | exact enumD_len.trans (List.length_map _) | exact enumD_len | exact List.length_map _ | exact rfl | simp), ⟨t.2, _, _, _, ht, rfl, rfl⟩, ?_, ?_⟩
  · rintro ie x vs μ' hx ⟨an, w5, w6, w7, han, rfl, rfl⟩
    refine wG_rho (ρ' := [_, _, _, _, _, _, _, _, _]) rfl ?_
    obtain ⟨e, he, rfl⟩ := map_get' hx
    have hs8 : e.2 < 8 := by
      have hm := List.mem_of_mem_take (List.mem_of_getElem? he)
      simp at hm
      rcases hm with rfl | rfl
      · exact h2
      · exact h5
    have hal := han.len
    have hal : an.length = t.1.length := hal
    have hsm := Nat.mod_lt e.1 htp
    first | refine wg_tup rfl rfl ?_ | refine wg_lst rfl rfl ?_
    refine wgs_cons ?_
    refine wg_name 5 sc__law_bent.nd rfl (.inl rfl) (.inl rfl) ?_
    refine wgs_cons ?_
    refine wg_name 6 sc__law_bent.nd rfl (.inl rfl) (.inl rfl) ?_
    refine wgs_nil ?_
    -- _law_spot = _law_place % len(_law_row)
    refine w_cons (w_set 7 sc__law_bent.nd rfl (.inl rfl) (.inl rfl) ?_)
    refine w_bin ?_
    refine w_name 5 rfl (.inl rfl) rfl ?_
    refine w_callB (id := "len") T.b_len ?_
    refine wa_cons ?_
    refine w_name 3 rfl (.inl rfl) rfl ?_
    refine wa_nil ?_
    refine c_lenT ?_
    rw [List.length_map]
    refine o_modN htp ?_
    -- _law_answers = _law_answers[:_law_spot] + (_law_answer,) + _law_answers[_law_spot + 1:]
    refine w_cons (w_set 4 sc__law_bent.nd rfl (.inl rfl) (.inl rfl) ?_)
    refine w_bin ?_
    refine w_bin ?_
    refine w_sl ?_
    refine w_name 4 rfl (.inl rfl) rfl ?_
    refine wo_none ?_
    refine wo_some ?_
    refine w_name 7 rfl (.inl rfl) rfl ?_
    refine ⟨_, rfl, ?_⟩
    refine sd_tup ?_
    rw [cut_map_to]
    refine w_tup ?_
    refine wa_cons ?_
    refine w_name 6 rfl (.inl rfl) rfl ?_
    refine wa_nil ?_
    refine ⟨by simp, ?_⟩
    refine o_addT (by rw [List.length_map]; have := List.length_take_le' (e.1 % t.1.length) an; show _ + 1 ≤ _; omega) ?_
    refine w_sl ?_
    refine w_name 4 rfl (.inl rfl) rfl ?_
    refine wo_some ?_
    refine w_bin ?_
    refine w_name 7 rfl (.inl rfl) rfl ?_
    refine w_int ?_
    first | refine o_addN (b := 1) ?_ | walk_at "Add"
    refine ⟨_, rfl, ?_⟩
    refine wo_none ?_
    refine sd_tup ?_
    rw [cut_map_from]
    refine o_addT (by simp only [List.length_append, List.length_map, List.length_take, List.length_drop, List.length_cons, List.length_nil]; omega) ?_
    refine w_nil ?_
    rw [show (D.tup ((an.take (e.1 % t.1.length)).map optD ++ [.int (e.2 : Nat)] ++ (an.drop (e.1 % t.1.length + 1)).map optD)) = ansD (an.take (e.1 % t.1.length) ++ [some e.2] ++ an.drop (e.1 % t.1.length + 1)) from by unfold ansD; rw [List.map_append, List.map_append]; rfl]
    exact ⟨[_, _, _, _], rfl, ⟨an.take (e.1 % t.1.length) ++ [some e.2] ++ an.drop (e.1 % t.1.length + 1), _, _, _, ans_put han hs8, rfl, rfl⟩⟩
  rintro vs μ' ⟨an, w5, w6, w7, han, rfl, rfl⟩
  refine wSs_rho (ρ' := [_, _, _, _, _, _, _, _, _]) rfl ?_
  -- _law_begin = _law_spots[3] % (len(_law_sheet_here) + 1)
  refine w_cons (w_set 8 sc__law_bent.nd rfl (.inl rfl) (.inl rfl) ?_)
  refine w_bin ?_
  refine w_ix ?_
  refine w_name 1 rfl (.inl rfl) rfl ?_
  refine w_int ?_
  refine ix_lstD 3 rfl rfl ?_
  refine w_bin ?_
  refine w_callB (id := "len") T.b_len ?_
  refine wa_cons ?_
  refine w_name 0 rfl (.inl rfl) rfl ?_
  refine wa_nil ?_
  refine c_lenL ?_
  rw [List.length_map]
  refine w_int ?_
  first | refine o_addN (b := 1) ?_ | walk_at "Add"
  refine o_modN (by omega) ?_
  -- return _law_sheet_here[:_law_begin] + [(_law_row, _law_answers)] + _law_sheet_here[_law_begin:]
  refine w_cons (w_ret ?_)
  refine w_bin ?_
  refine w_bin ?_
  refine w_sl ?_
  refine w_name 0 rfl (.inl rfl) rfl ?_
  refine wo_none ?_
  refine wo_some ?_
  refine w_name 8 rfl (.inl rfl) rfl ?_
  refine ⟨_, rfl, ?_⟩
  refine sd_lst ?_
  rw [cut_map_to]
  refine w_lst ?_
  refine wa_cons ?_
  refine w_tup ?_
  refine wa_cons ?_
  refine w_name 3 rfl (.inl rfl) rfl ?_
  refine wa_cons ?_
  refine w_name 4 rfl (.inl rfl) rfl ?_
  refine wa_nil ?_
  refine ⟨by simp, ?_⟩
  refine wa_nil ?_
  refine ⟨by simp, ?_⟩
  refine o_addL (by rw [List.length_map]; have := List.length_take_le' (s3 % (S.length + 1)) S; show _ + 1 ≤ _; omega) ?_
  refine w_sl ?_
  refine w_name 0 rfl (.inl rfl) rfl ?_
  refine wo_some ?_
  refine w_name 8 rfl (.inl rfl) rfl ?_
  refine ⟨_, rfl, ?_⟩
  refine wo_none ?_
  refine sd_lst ?_
  rw [cut_map_from]
  refine o_addL (by simp only [List.length_append, List.length_map, List.length_take, List.length_drop, List.length_cons, List.length_nil]; omega) ?_
  have hS' : SOk asks (S.take (s3 % (S.length + 1)) ++ [(t.1, an)] ++ S.drop (s3 % (S.length + 1))) := fun x hx => by
    rw [List.mem_append, List.mem_append, List.mem_singleton] at hx
    rcases hx with (hx | rfl) | hx
    · exact hS x (List.mem_of_mem_take hx)
    · exact han
    · exact hS x (List.mem_of_mem_drop hx)
  have k := k _ hS' (by simp only [List.length_append, List.length_take, List.length_drop, List.length_cons, List.length_nil]; omega)
  rw [List.map_append, List.map_append] at k
  exact k
end
section
variable {P : Program} {w : World} {K : PySem.W.Frag} {mg : Str → Option Value} {base : Heap}
theorem ok_mright (B : Src K mg "_law_made_right" s__law_made_right ["_law_one", "_law_other"]) (T : Tx mg) {cs : Cs} (TC : Tc K mg cs) (G__law_words : KnG P w K mg base 1 "_law_words" ["_law_caught"] (Sc_wordsC cs)) : KnG P w K mg base 3 "_law_made_right" ["_law_one", "_law_other"] (Sc_mright cs) := by
  refine kn_ofG B sc__law_made_right (fun ds μ Φ h => by obtain ⟨_, _, rfl, _⟩ := h; rfl) fun f cdv A outer s H E grd hr ds μ Φ h => ?_
  obtain ⟨i, p, rfl, k⟩ := h
  refine wSs_rho (ρ' := [_, _, _]) rfl ?_
  -- _law_caught = Clash(_law_one, _law_other)
  refine w_cons (w_set 2 sc__law_made_right.nd rfl (.inl rfl) (.inl rfl) ?_)
  refine w_mkI (init_Clash TC) hr TC.g_Clash (tc_f_Clash TC) TC.k_Clash ?_
  refine wa_cons ?_
  refine w_name 0 rfl (.inl rfl) rfl ?_
  refine wa_cons ?_
  refine w_name 1 rfl (.inl rfl) rfl ?_
  refine wa_nil ?_
  refine ⟨rfl, fun a => ?_⟩
  -- if _law_words(_law_caught) != ['clash'] or not isinstance(_law_caught, CellError):
  refine w_cons (w_if ?_)
  refine wt_b (false) ?_ ?_
  · refine wt_w ?_
    refine ww_or ?_
    refine wt_cmp ?_
    refine w_callG G__law_words hr ?_
    refine wa_cons ?_
    refine w_name 2 rfl (.inl rfl) rfl ?_
    refine wa_nil ?_
    refine ⟨a, μ, i, p, rfl, rfl, ?_⟩
    refine w_lst ?_
    refine wa_cons ?_
    refine w_str ?_
    refine wa_nil ?_
    refine ⟨by simp, ?_⟩
    refine o_neY hr.units ly_cl ly_cl ?_
    rw [eqv_same ly_cl]
    refine ⟨_, rfl, ?_⟩
    refine ⟨fun hb0 => ?_, fun hb0 => ⟨(by cases hb0), rfl⟩⟩
    refine ww_or1 ?_
    refine wt_not ?_
    refine wt_val ?_
    refine w_callB (id := "isinstance") T.b_isinstance ?_
    refine wa_cons ?_
    refine w_name 2 rfl (.inl rfl) rfl ?_
    refine wa_cons ?_
    refine w_cls TC.g_CellError ?_
    refine wa_nil ?_
    refine c_isEF 0 rfl (by decide) (tc_e_Clash TC) (.own _) TC.i_Clash_CellError ?_
    refine ⟨_, rfl, ?_⟩
    exact ⟨(by rfl), rfl⟩
  refine ⟨fun hb => ?_, fun hb => ?_⟩
  · cases hb
  refine w_nil ?_
  -- return (_law_caught.row, _law_caught.place) == (_law_one, _law_other)
  refine w_cons (w_ret (w_dr ?_))
  refine w_cmp ?_
  refine w_tup ?_
  refine wa_cons ?_
  refine w_xf ?_
  refine w_name 2 rfl (.inl rfl) rfl ?_
  refine ⟨a, _, 0, _, _, _, rfl, rfl, by decide, tc_f_Clash TC, TC.of_Clash_row, rfl, ?_⟩
  refine wa_cons ?_
  refine w_xf ?_
  refine w_name 2 rfl (.inl rfl) rfl ?_
  refine ⟨a, _, 0, _, _, _, rfl, rfl, by decide, tc_f_Clash TC, TC.of_Clash_place, rfl, ?_⟩
  refine wa_nil ?_
  refine ⟨by simp, ?_⟩
  refine w_tup ?_
  refine wa_cons ?_
  refine w_name 0 rfl (.inl rfl) rfl ?_
  refine wa_cons ?_
  refine w_name 1 rfl (.inl rfl) rfl ?_
  refine wa_nil ?_
  refine ⟨by simp, ?_⟩
  refine o_eqY hr.units (Ly.tup (.cons (Ly.int _) (.cons (Ly.int _) .nil))) (Ly.tup (.cons (Ly.int _) (.cons (Ly.int _) .nil))) ?_
  rw [eqv_same (Ly.tup (.cons (Ly.int _) (.cons (Ly.int _) .nil)))]
  exact ⟨_, List.sublist_cons_self _ _, k⟩
end
end L37

namespace L37
open PySem PySem.Spec L2 Oc
open Evl (Ex)
local macro_rules | `(tactic| walk_at "s") => `(tactic| first | assumption | omega | decide | (simp only [] at *; omega))
local macro_rules | `(tactic| walk_at "Add") => `(tactic| first | refine o_addN ?_ | refine o_add ?_ | refine o_addS (by walk_at "s") ?_ | refine o_addT (by walk_at "s") ?_ | refine o_addL (by walk_at "s") ?_)
local macro_rules | `(tactic| walk_at "Sub") => `(tactic| refine o_sub ?_)
local macro_rules | `(tactic| walk_at "Mult") => `(tactic| refine o_mul (by walk_at "s") ?_)
local macro_rules | `(tactic| walk_at "Mod") => `(tactic| first | refine o_modN (by walk_at "s") ?_ | refine o_mod (by walk_at "s") ?_)
local macro_rules | `(tactic| walk_at "FloorDiv") => `(tactic| first | refine o_divN (by walk_at "s") ?_ | refine o_div (by walk_at "s") ?_)
local macro_rules | `(tactic| walk_at "Pow") => `(tactic| refine o_pow (by walk_at "s") ?_)
local macro_rules | `(tactic| walk_at "LShift") => `(tactic| refine o_shl (by walk_at "s") ?_)
local macro_rules | `(tactic| walk_at "RShift") => `(tactic| refine o_shr (by walk_at "s") ?_)
local macro_rules | `(tactic| walk_at "BitAnd") => `(tactic| refine o_band ?_)
local macro_rules | `(tactic| walk_at "BitXor") => `(tactic| refine o_bxor ?_)
local macro_rules | `(tactic| walk_at "BitOr") => `(tactic| refine o_bor ?_)
local macro_rules | `(tactic| walk_at "Lt") => `(tactic| refine o_lt ?_)
local macro_rules | `(tactic| walk_at "LtE") => `(tactic| refine o_le ?_)
local macro_rules | `(tactic| walk_at "Gt") => `(tactic| refine o_gt ?_)
local macro_rules | `(tactic| walk_at "GtE") => `(tactic| refine o_ge ?_)
local macro_rules | `(tactic| walk_at "Eq") => `(tactic| refine o_eq (by rfl) ?_)
local macro_rules | `(tactic| walk_at "NotEq") => `(tactic| refine o_ne (by rfl) ?_)
local macro_rules | `(tactic| walk_at "Is") => `(tactic| refine o_isN ?_)
local macro_rules | `(tactic| walk_at "IsNot") => `(tactic| refine o_notN ?_)
local macro_rules | `(tactic| walk_at "In") => `(tactic| refine o_in (by first | exact .inl rfl | exact .inr (.inl rfl) | exact .inr (.inr rfl)) (by rfl) (by rfl) ?_)
local macro_rules | `(tactic| walk_at "NotIn") => `(tactic| refine o_nin (by first | exact .inl rfl | exact .inr (.inl rfl) | exact .inr (.inr rfl)) (by rfl) (by rfl) ?_)
local macro_rules | `(tactic| walk_at "c_abs") => `(tactic| refine c_abs ?_)
local macro_rules | `(tactic| walk_at "c_len") => `(tactic| first | refine c_lenL ?_ | refine c_lenC ?_ | refine c_lenT ?_ | refine c_lenS (by walk_at "s") ?_ | refine c_lenP 0 (by first | assumption | rfl) ?_)
local macro_rules | `(tactic| walk_at "c_str") => `(tactic| refine c_str (by walk_at "s") ?_)
local macro_rules | `(tactic| walk_at "c_isinstance") => `(tactic| refine c_isi rfl (by rfl) ?_)
local macro_rules | `(tactic| walk_at "sl") => `(tactic| first | refine sd_tup ?_ | refine sd_lst ?_)
local macro_rules | `(tactic| walk_at "c_tuple") => `(tactic| first | refine c_tupL ?_ | refine c_tupP 0 (by first | assumption | rfl) ?_ | refine c_tupT ?_)
local macro_rules | `(tactic| walk_at "c_int") => `(tactic| first | refine c_intB ?_)
local macro_rules | `(tactic| walk_at "USub") => `(tactic| refine u_neg ?_)
local macro_rules | `(tactic| walk_at "pen") => `(tactic| first | assumption | exact get_set (by assumption) | exact get_set (get_set (by assumption)) | exact get_here | (apply get_cons; walk_at "pen") | (apply get_app; walk_at "pen"))
local macro_rules | `(tactic| walk_at "mu") => `(tactic| simp only [List.set_cons_succ, List.set_set, List.set_cons_zero])
/-! ### k37: the law -/
def toldP (t : Told) : PyData := .tuple [.tuple (t.1.map fun a : Nat => .int a), .tuple (t.2.map optP)]
theorem shw_told (μ : Mu) (t : Told) : Shw μ (toldD t) (toldP t) := .tup (.cons (.tup (Shws.map (f := fun a : Nat => D.int a) (g := fun a : Nat => PyData.int a) (fun _ => .int _) t.1)) (.cons (.tup (Shws.map (shw_opt μ) t.2)) .nil))
theorem tm_told {asks : Nat} {t : Told} (h : TOk asks t) (ha : asks ≤ 4) : Tm (toldP t) 100 3 := by
  have h1 : Tms (t.1.map fun a : Nat => PyData.int a) ((0 + 1) * t.1.length) 0 := Tms.map fun a hx => Tm.int (by have := h.ask a hx; omega)
  have h2 : Tms (t.2.map optP) ((0 + 1) * t.2.length) 0 := Tms.map fun o ho => tm_opt (h.ans o ho) (by decide)
  have := h.le
  have := h.len
  exact (Tm.tup (.cons (Tm.tup h1) (.cons (Tm.tup h2) .nil))).mono (by omega) (by omega)
theorem tm_sheet {asks : Nat} {S : List Told} (h : SOk asks S) (ha : asks ≤ 4) (hl : S.length ≤ 1000) : Tm (.list (S.map toldP)) 200000 5 := by
  have t := Tms.map (g := toldP) fun t ht => tm_told (h t ht) ha
  exact (Tm.lst t).mono (by omega) (by omega)
theorem shw_sheet (μ : Mu) (S : List Told) : Shw μ (.lst (S.map toldD)) (.list (S.map toldP)) := .lst (Shws.map (shw_told μ) S)
theorem ly_w38 {w : Str} (h : PyData.canLay0 (.str w) = true) : Ly (.str w) 0 := ⟨by simp only [D.still], by simp only [D.py]; exact h, by simp only [D.py, PyData.depth]; exact Nat.le_refl _⟩
theorem ly_told1 : Ly (.lst [.str "told"]) 1 := Ly.lst (.cons (ly_w38 (by decide +kernel)) .nil)
theorem ly_due (S : List Told) (o : Option (Nat × Nat)) : Ly (dueD S o) 1 := by
  cases o with
  | some q =>
    obtain ⟨i, p⟩ := q
    exact Ly.lst (.cons (ly_w38 (by decide +kernel)) (.cons (Ly.int _) (.cons (Ly.int _) .nil)))
  | none =>
    show Ly (if 24 < (begF S).length then .lst [.str "many"] else .lst [.str "told"]) 1
    by_cases h : 24 < (begF S).length
    · rw [if_pos h]; exact Ly.lst (.cons (ly_w38 (by decide +kernel)) .nil)
    · rw [if_neg h]; exact ly_told1
def wid37 : List Nat := [24, 12, 8, 24, 12, 8]
section
variable {P : Program} {w : World} {K : PySem.W.Frag} {mg : Str → Option Value} {base : Heap}
theorem ok_law {f : Addr} {fd : FuncData} (FL : Fun K "law" "law" s_law f fd) (T : Tx mg) {cs : Cs} (TC : Tc K mg cs) (G_tree_of : KnX P w K mg base 4 "tree_of" ["asks", "sheet"] (S_treeX cs)) (G_least_of : KnX P w K mg base 5 "least_of" ["asks", "sheet"] (S_leastofX cs)) (G__law_pen : KnG P w K mg base 1 "_law_pen" ["_law_script"] S_pen) (G__law_draw : KnG P w K mg base 1 "_law_draw" ["_law_pen_here", "_law_many"] S_draw) (G__law_made_right : KnG P w K mg base 3 "_law_made_right" ["_law_one", "_law_other"] (Sc_mright cs)) (G__law_small : KnG P w K mg base 2 "_law_small" ["_law_pen_here", "_law_asks", "_law_most"] S_small) (G__law_sheet : KnG P w K mg base 3 "_law_sheet" ["_law_pen_here", "_law_rooms", "_law_many", "_law_most"] S_sheet) (G__law_bent : KnG P w K mg base 2 "_law_bent" ["_law_sheet_here", "_law_spots", "_law_many"] S_bent37) (G__law_due : KnG P w K mg base 3 "_law_due" ["_law_sheet_here"] S_due37) (G_hdT : KnG P w K mg base 6 "_law_heard" ["_law_which", "_law_asks", "_law_sheet_here"] (Scm_heardT cs mg)) (G_hdL : KnG P w K mg base 6 "_law_heard" ["_law_which", "_law_asks", "_law_sheet_here"] (Scm_heardL cs mg)) : FnG P w K mg base 7 f fd ["_law_script"] S_law := by
  refine fnG_of FL sc_law (fun ds μ Φ h => by obtain ⟨_, rfl, _⟩ := h; rfl) fun cdv A outer s H E grd hr ds μ Φ h => ?_
  obtain ⟨ns, rfl, hns, k⟩ := h
  obtain ⟨gT, _, hmT, _⟩ := G_tree_of.ex
  obtain ⟨gL, _, hmL, _⟩ := G_least_of.ex
  refine wSs_rho (ρ' := [_, _, _, _, _, _, _, _, _, _, _, _, _, _]) rfl ?_
  -- _law_pen_here = _law_pen(_law_script)
  refine w_cons (w_set 1 sc_law.nd rfl (.inr rfl) (.inl rfl) ?_)
  refine w_callG G__law_pen hr ?_
  refine wa_cons ?_
  refine w_name 0 rfl (.inl rfl) rfl ?_
  refine wa_nil ?_
  refine ⟨ns, rfl, fun p => ?_⟩
  -- for _law_turn in range(3):
  refine w_cons (w_forV [2, 3, 4, 6, 7, 8, 9, 10, 11, 12, 13] ?_ PassesOwn.never rfl)
  refine wi_rngN T.b_range ?_
  refine w_int ?_
  refine ⟨3, by rfl, by omega, ?_⟩
  refine ⟨_, fun i vs μ' => ∃ (c : Nat) (w2 w3 w4 w6 w7 w8 w9 w10 w11 w12 w13 : Option D), (c ≤ 3000 * i) ∧ vs = [w2, w3, w4, w6, w7, w8, w9, w10, w11, w12, w13] ∧ (p, penO ns c) :: μ = μ', (by first | exact nats_len | exact nats2_len | exact enumD_len.trans (List.length_map _) | exact enumD_len | exact List.length_map _ | exact rfl | simp), ⟨0, _, _, _, _, _, _, _, _, _, _, _, (Nat.zero_le _), rfl, rfl⟩, ?_, ?_⟩
  · rintro turn x vs μ' hx ⟨c, w2, w3, w4, w6, w7, w8, w9, w10, w11, w12, w13, hc, rfl, rfl⟩
    refine wG_rho (ρ' := [_, _, _, _, _, _, _, _, _, _, _, _, _, _]) rfl ?_
    obtain ⟨hturn, rfl⟩ := nats_get hx
    refine wg_name 2 sc_law.nd rfl (.inl rfl) (.inl rfl) ?_
    -- _law_way = _law_draw(_law_pen_here, 4)
    refine w_cons (w_set 3 sc_law.nd rfl (.inl rfl) (.inl rfl) ?_)
    refine w_callG G__law_draw hr ?_
    refine wa_cons ?_
    refine w_name 1 rfl (.inr (.inl rfl)) rfl ?_
    refine wa_cons ?_
    refine w_int ?_
    refine wa_nil ?_
    refine ⟨_, _, _, _, _, rfl, by walk_at "pen", by omega, by omega, fun r1 μ1 hr1 e1 => ?_⟩
    try simp only [List.set_cons_succ, List.set_set, List.set_cons_zero] at e1
    subst e1
    -- _law_spots = [_law_draw(_law_pen_here, _law_wide) for _law_wide in (24, 12, 8, 24, 12, 8)]
    refine w_cons (w_setLc (own := [("_law_wide", 5)]) 4 (.one 5) (by decide) rfl sc_law.nd rfl rfl (blkOk_by (N := N_law) (sc := defScope s_law) (by decide +kernel)) (sw_true rfl rfl rfl (by decide +kernel)) (fun _ _ _ _ _ => pg_name (i := 5) sc_law.nd rfl (by first | exact .inl rfl | exact .inr rfl)) ?_)
    refine lcW_of ?_
    refine wi_tup ?_
    refine w_tup ?_
    refine wa_cons ?_
    refine w_int ?_
    refine wa_cons ?_
    refine w_int ?_
    refine wa_cons ?_
    refine w_int ?_
    refine wa_cons ?_
    refine w_int ?_
    refine wa_cons ?_
    refine w_int ?_
    refine wa_cons ?_
    refine w_int ?_
    refine wa_nil ?_
    refine ⟨by simp, ?_⟩
    refine ⟨_, rfl, ?_⟩
    refine ⟨(by show 6 ≤ _; decide), fun i acc μ2 => ∃ (C : List Nat) (c2 : Nat), C.length = i ∧ (∀ j x v, C[j]? = some x → wid37[j]? = some v → x < v) ∧ c2 ≤ c + 1 + i ∧ acc = C.map (fun a : Nat => D.int a) ∧ μ2 = (p, penO ns c2) :: μ, ⟨[], c + 1, rfl, (fun (j x v : Nat) (h : ([] : List Nat)[j]? = some x) => by cases h), (by omega), rfl, rfl⟩, ?_, ?_⟩
    · rintro p2 i x acc μ2 hx ⟨C, c2, hCl, hC, hc2, rfl, rfl⟩
      have hx : (wid37.map fun n : Nat => D.int n)[i]? = some x := hx
      obtain ⟨v, hv, rfl⟩ := map_get' hx
      have hil : i < 6 := lt_of_get hv
      have hvb : 0 < v ∧ v ≤ 24 := by
        have hm := List.mem_of_getElem? hv
        simp [wid37] at hm
        omega
      refine ⟨_, rfl, fun _ _ _ _ _ => ?_⟩
      refine ⟨fun _ _ _ _ _ _ => ?_, fun hb => (nomatch hb)⟩
      refine w_callG G__law_draw hr ?_
      refine wa_cons ?_
      refine w_name 1 rfl (.inr (.inl rfl)) rfl ?_
      refine wa_cons ?_
      refine w_name 5 rfl (.inl rfl) rfl ?_
      refine wa_nil ?_
      refine ⟨_, _, _, _, _, rfl, by walk_at "pen", by omega, by omega, fun r2 μ2 hr2 e2 => ?_⟩
      try simp only [List.set_cons_succ, List.set_set, List.set_cons_zero] at e2
      subst e2
      refine ⟨_, rfl, ?_⟩
      exact ⟨C ++ [r2], c2 + 1, by rw [List.length_append, hCl]; rfl, (by
        intro j x v' h1 h2
        by_cases hj : j < C.length
        · rw [List.getElem?_append_left hj] at h1
          exact hC j x v' h1 h2
        · rw [List.getElem?_append_right (by omega)] at h1
          have hj0 : j - C.length = 0 := by have := lt_of_get h1; simpa using this
          rw [hj0] at h1
          cases h1
          rw [show j = i by omega, hv] at h2
          cases h2
          omega), by omega, by rw [List.map_append]; rfl, rfl⟩
    rintro p2 acc μ2 ⟨C, c2, hCl, hC, hc2, rfl, rfl⟩
    have hCl : C.length = 6 := hCl
    have hc2 : c2 ≤ c + 1 + 6 := hc2
    obtain ⟨s0, s1, s2, s3, s4, s5, rfl⟩ : ∃ s0 s1 s2 s3 s4 s5, C = [s0, s1, s2, s3, s4, s5] := by
      match C, hCl with
      | [s0, s1, s2, s3, s4, s5], _ => exact ⟨s0, s1, s2, s3, s4, s5, rfl⟩
    have hs2 : s2 < 8 := hC 2 s2 8 rfl rfl
    have hs5 : s5 < 8 := hC 5 s5 8 rfl rfl
    refine ⟨_, _, _, rfl, rfl, .inl ?_⟩
    -- _law_bends = 1 + _law_draw(_law_pen_here, 2)
    refine w_cons (w_set 6 sc_law.nd rfl (.inl rfl) (.inl rfl) ?_)
    refine w_bin ?_
    refine w_int ?_
    refine w_callG G__law_draw hr ?_
    refine wa_cons ?_
    refine w_name 1 rfl (.inr (.inl rfl)) rfl ?_
    refine wa_cons ?_
    refine w_int ?_
    refine wa_nil ?_
    refine ⟨_, _, _, _, _, rfl, by walk_at "pen", by omega, by omega, fun r3 μ3 hr3 e3 => ?_⟩
    try simp only [List.set_cons_succ, List.set_set, List.set_cons_zero] at e3
    subst e3
    first | refine o_addN (a := 1) ?_ | walk_at "Add"
    -- if not _law_made_right(12 + _law_spots[0] % 12, _law_spots[1] % 12):
    refine w_cons (w_if ?_)
    refine wt_not ?_
    refine wt_val ?_
    refine w_callG G__law_made_right hr ?_
    refine wa_cons ?_
    refine w_bin ?_
    refine w_int ?_
    refine w_bin ?_
    refine w_ix ?_
    refine w_name 4 rfl (.inl rfl) rfl ?_
    refine w_int ?_
    refine ix_lstD 0 rfl rfl ?_
    refine w_int ?_
    refine o_modN (b := 12) (by decide) ?_
    refine o_addN (a := 12) ?_
    refine wa_cons ?_
    refine w_bin ?_
    refine w_ix ?_
    refine w_name 4 rfl (.inl rfl) rfl ?_
    refine w_int ?_
    refine ix_lstD 1 rfl rfl ?_
    refine w_int ?_
    refine o_modN (b := 12) (by decide) ?_
    refine wa_nil ?_
    refine ⟨12 + s0 % 12, s1 % 12, rfl, ?_⟩
    refine ⟨_, rfl, ?_⟩
    refine ⟨fun hb => ?_, fun hb => ?_⟩
    · cases hb
    refine w_nil ?_
    -- _law_many = [_law_draw(_law_pen_here, 24), 23][_law_draw(_law_pen_here, 2)]
    refine w_cons (w_set 7 sc_law.nd rfl (.inl rfl) (.inl rfl) ?_)
    refine w_ix ?_
    refine w_lst ?_
    refine wa_cons ?_
    refine w_callG G__law_draw hr ?_
    refine wa_cons ?_
    refine w_name 1 rfl (.inr (.inl rfl)) rfl ?_
    refine wa_cons ?_
    refine w_int ?_
    refine wa_nil ?_
    refine ⟨_, _, _, _, _, rfl, by walk_at "pen", by omega, by omega, fun r4 μ4 hr4 e4 => ?_⟩
    try simp only [List.set_cons_succ, List.set_set, List.set_cons_zero] at e4
    subst e4
    refine wa_cons ?_
    refine w_int ?_
    refine wa_nil ?_
    refine ⟨by simp, ?_⟩
    refine w_callG G__law_draw hr ?_
    refine wa_cons ?_
    refine w_name 1 rfl (.inr (.inl rfl)) rfl ?_
    refine wa_cons ?_
    refine w_int ?_
    refine wa_nil ?_
    refine ⟨_, _, _, _, _, rfl, by walk_at "pen", by omega, by omega, fun r5 μ5 hr5 e5 => ?_⟩
    try simp only [List.set_cons_succ, List.set_set, List.set_cons_zero] at e5
    subst e5
    refine ix_some (fun d => ∃ v : Nat, d = .int v ∧ v ≤ 24) (by show (_ : Nat) < 2; omega) (by intro d hd; simp at hd; rcases hd with rfl | rfl; exact ⟨r4, rfl, by omega⟩; exact ⟨23, rfl, by decide⟩) ?_
    rintro d ⟨v, rfl, hv⟩
    -- _law_rooms = _law_small(_law_pen_here, 1 + _law_draw(_law_pen_here, 4), 5)
    refine w_cons (w_set 8 sc_law.nd rfl (.inl rfl) (.inl rfl) ?_)
    refine w_callG G__law_small hr ?_
    refine wa_cons ?_
    refine w_name 1 rfl (.inr (.inl rfl)) rfl ?_
    refine wa_cons ?_
    refine w_bin ?_
    refine w_int ?_
    refine w_callG G__law_draw hr ?_
    refine wa_cons ?_
    refine w_name 1 rfl (.inr (.inl rfl)) rfl ?_
    refine wa_cons ?_
    refine w_int ?_
    refine wa_nil ?_
    refine ⟨_, _, _, _, _, rfl, by walk_at "pen", by omega, by omega, fun r6 μ6 hr6 e6 => ?_⟩
    try simp only [List.set_cons_succ, List.set_set, List.set_cons_zero] at e6
    subst e6
    first | refine o_addN (a := 1) ?_ | walk_at "Add"
    refine wa_cons ?_
    refine w_int ?_
    refine wa_nil ?_
    refine ⟨ns, _, p, 0, 1 + r6, 5, rfl, by walk_at "pen", by omega, by omega, by decide, fun R cR μR hR hcR eR => ?_⟩
    rw [List.set_cons_zero] at eR
    subst eR
    -- _law_sheet_here = _law_sheet(_law_pen_here, _law_rooms, _law_many, [24, 400][_law_way % 2])
    refine w_cons (w_set 9 sc_law.nd rfl (.inl rfl) (.inl rfl) ?_)
    refine w_callG G__law_sheet hr ?_
    refine wa_cons ?_
    refine w_name 1 rfl (.inr (.inl rfl)) rfl ?_
    refine wa_cons ?_
    refine w_name 8 rfl (.inl rfl) rfl ?_
    refine wa_cons ?_
    refine w_name 7 rfl (.inl rfl) rfl ?_
    refine wa_cons ?_
    refine w_ix ?_
    refine w_lst ?_
    refine wa_cons ?_
    refine w_int ?_
    refine wa_cons ?_
    refine w_int ?_
    refine wa_nil ?_
    refine ⟨by simp, ?_⟩
    refine w_bin ?_
    refine w_name 3 rfl (.inl rfl) rfl ?_
    refine w_int ?_
    refine o_modN (b := 2) (by decide) ?_
    refine ix_some (fun d => ∃ v : Nat, d = .int v ∧ 0 < v ∧ v ≤ 1000) (by show (_ : Nat) < 2; omega) (by intro d hd; simp at hd; rcases hd with rfl | rfl; exact ⟨24, rfl, by decide, by decide⟩; exact ⟨400, rfl, by decide, by decide⟩) ?_
    rintro d ⟨ms, rfl, hms⟩
    refine wa_nil ?_
    refine ⟨ns, cR, p, 0, 1 + r6, v, ms, R, rfl, by walk_at "pen", by omega, hR, by omega, hv, hms, fun S cS μS hS hC hSl hB hcS eS => ?_⟩
    rw [List.set_cons_zero] at eS
    subst eS
    -- _law_asks = 4
    refine w_cons (w_set 10 sc_law.nd rfl (.inl rfl) (.inl rfl) ?_)
    refine w_int ?_
    -- if _law_way > 1 and _law_sheet_here != []:
    refine w_cutV [9] (fun vs μ' => ∃ (S2 : List Told), (SOk (1 + r6) S2) ∧ (S2.length ≤ 1000) ∧ vs = [some (.lst (S2.map toldD))] ∧ (p, penO ns cS) :: μ = μ') (w_if ?_) ?_
    · refine wt_mono (Ψ := (fun b μ1 => (b = true → S ≠ []) ∧ μ1 = (p, penO ns cS) :: μ)) ?_ ?_
      · refine wt_w ?_
        refine ww_and ?_
        refine wt_cmp ?_
        refine w_name 3 rfl (.inl rfl) rfl ?_
        refine w_int ?_
        walk_at "Gt"
        refine ⟨_, rfl, ?_⟩
        refine ⟨fun hb0 => ?_, fun hb0 => ?_⟩
        rotate_left
        · exact ⟨fun z => (nomatch z), rfl⟩
        refine ww_and1 ?_
        refine wt_cmp ?_
        refine w_name 9 rfl (.inl rfl) rfl ?_
        refine w_lst ?_
        refine wa_nil ?_
        refine ⟨by simp, ?_⟩
        refine o_neY hr.units (Ly.lst (Lys.map (n := 2) fun t _ => ly_told t)) (Ly.lst Lys.nil) ?_
        rw [eqv_lnil, List.isEmpty_map]
        refine ⟨_, rfl, ?_⟩
        exact ⟨fun z e => (by subst e; cases z), rfl⟩
      rintro b μ1 ⟨hbn, rfl⟩
      refine ⟨fun hb => ?_, fun hb => ?_⟩
      · -- _law_sheet_here = _law_bent(_law_sheet_here, _law_spots, _law_bends)
        refine w_cons (w_set 9 sc_law.nd rfl (.inl rfl) (.inl rfl) ?_)
        refine w_callG G__law_bent hr ?_
        refine wa_cons ?_
        refine w_name 9 rfl (.inl rfl) rfl ?_
        refine wa_cons ?_
        refine w_name 4 rfl (.inl rfl) rfl ?_
        refine wa_cons ?_
        refine w_name 6 rfl (.inl rfl) rfl ?_
        refine wa_nil ?_
        refine ⟨S, 1 + r6, s0, s1, s2, s3, s4, s5, 1 + r3, rfl, hS, by omega, hbn hb, hs2, hs5, by omega, fun S' hS' hl' => ?_⟩
        refine w_nil ?_
        exact ⟨[_], rfl, ⟨S', hS', hl', rfl, rfl⟩⟩
      · refine w_nil ?_
        exact ⟨[_], rfl, ⟨S, hS, (by omega), rfl, rfl⟩⟩
    rintro vs μ' ⟨S2, hS2, hl2, rfl, rfl⟩
    refine wSs_rho (ρ' := [_, _, _, _, _, _, _, _, _, _, _, _, _, _]) rfl ?_
    -- _law_kept = repr(_law_sheet_here)
    refine w_cons (w_set 11 sc_law.nd rfl (.inl rfl) (.inl rfl) ?_)
    refine w_callB (id := "repr") T.b_repr ?_
    refine wa_cons ?_
    refine w_name 9 rfl (.inl rfl) rfl ?_
    refine wa_nil ?_
    refine c_reprT _ hr (shw_sheet _ _) (tm_sheet hS2 (by omega) hl2) ?_
    -- _law_due_here = _law_due(_law_sheet_here)
    refine w_cons (w_set 12 sc_law.nd rfl (.inl rfl) (.inl rfl) ?_)
    refine w_callG G__law_due hr ?_
    refine wa_cons ?_
    refine w_name 9 rfl (.inl rfl) rfl ?_
    refine wa_nil ?_
    refine ⟨S2, 1 + r6, rfl, hS2, hl2, fun o hD => ?_⟩
    -- for _law_again in range(2):
    refine w_cons (w_forV [13] ?_ PassesOwn.never rfl)
    refine wi_rngN T.b_range ?_
    refine w_int ?_
    refine ⟨2, by rfl, by omega, ?_⟩
    refine ⟨_, fun i vs μ' => ∃  (w13 : Option D), vs = [w13] ∧ (p, penO ns cS) :: μ = μ', (by first | exact nats_len | exact nats2_len | exact enumD_len.trans (List.length_map _) | exact enumD_len | exact List.length_map _ | exact rfl | simp), ⟨_, rfl, rfl⟩, ?_, ?_⟩
    · rintro again x vs μ' hx ⟨w13, rfl, rfl⟩
      refine wG_rho (ρ' := [_, _, _, _, _, _, _, _, _, _, _, _, _, _]) rfl ?_
      obtain ⟨hagain, rfl⟩ := nats_get hx
      refine wg_name 13 sc_law.nd rfl (.inl rfl) (.inl rfl) ?_
      -- if _law_heard(tree_of, _law_asks, _law_sheet_here) != _law_due_here:
      refine w_cons (w_if ?_)
      refine wt_cmp ?_
      refine w_callG G_hdT hr ?_
      refine wa_cons ?_
      refine w_fnv hmT ?_
      refine wa_cons ?_
      refine w_name 10 rfl (.inl rfl) rfl ?_
      refine wa_cons ?_
      refine w_name 9 rfl (.inl rfl) rfl ?_
      refine wa_nil ?_
      refine ⟨gT, S2, 4, 1 + r6, o, rfl, hmT, hS2, hl2, by decide, hD, ?_⟩
      refine w_name 12 rfl (.inl rfl) rfl ?_
      refine o_neY hr.units (ly_due _ _) (ly_due _ _) ?_
      rw [eqv_same (ly_due _ _)]
      refine ⟨_, rfl, ?_⟩
      refine ⟨fun hb => ?_, fun hb => ?_⟩
      · cases hb
      refine w_nil ?_
      -- if _law_due_here != ['told'] and _law_heard(least_of, _law_asks, _law_sheet_here) != _law_due_here:
      refine w_cons (w_if ?_)
      refine wt_b (false) ?_ ?_
      · refine wt_w ?_
        refine ww_and ?_
        refine wt_cmp ?_
        refine w_name 12 rfl (.inl rfl) rfl ?_
        refine w_lst ?_
        refine wa_cons ?_
        refine w_str ?_
        refine wa_nil ?_
        refine ⟨by simp, ?_⟩
        refine o_neY hr.units (ly_due _ _) ly_told1 ?_
        refine ⟨_, rfl, ?_⟩
        refine ⟨fun hb0 => ?_, fun hb0 => ⟨(by rfl), rfl⟩⟩
        refine ww_and1 ?_
        refine wt_cmp ?_
        refine w_callG G_hdL hr ?_
        refine wa_cons ?_
        refine w_fnv hmL ?_
        refine wa_cons ?_
        refine w_name 10 rfl (.inl rfl) rfl ?_
        refine wa_cons ?_
        refine w_name 9 rfl (.inl rfl) rfl ?_
        refine wa_nil ?_
        refine ⟨gL, S2, 4, 1 + r6, o, rfl, hmL, hS2, hl2, by decide, hD, fun ho => ?_, ?_⟩
        · refine Classical.byContradiction fun hn => ?_
          rw [show dueD S2 o = .lst [.str "told"] from by rw [ho]; unfold dueD; rw [if_neg hn], eqv_same ly_told1] at hb0
          cases hb0
        refine w_name 12 rfl (.inl rfl) rfl ?_
        refine o_neY hr.units (ly_due _ _) (ly_due _ _) ?_
        rw [eqv_same (ly_due _ _)]
        refine ⟨_, rfl, ?_⟩
        exact ⟨(by rfl), rfl⟩
      refine ⟨fun hb => ?_, fun hb => ?_⟩
      · cases hb
      refine w_nil ?_
      refine w_nil ?_
      exact ⟨[_], rfl, ⟨_, rfl, rfl⟩⟩
    rintro vs μ' ⟨w13, rfl, rfl⟩
    refine wSs_rho (ρ' := [_, _, _, _, _, _, _, _, _, _, _, _, _, _]) rfl ?_
    -- if repr(_law_sheet_here) != _law_kept:
    refine w_cons (w_if ?_)
    refine wt_cmp ?_
    refine w_callB (id := "repr") T.b_repr ?_
    refine wa_cons ?_
    refine w_name 9 rfl (.inl rfl) rfl ?_
    refine wa_nil ?_
    refine c_reprT _ hr (shw_sheet _ _) (tm_sheet hS2 (by omega) hl2) ?_
    refine w_name 11 rfl (.inl rfl) rfl ?_
    refine o_ne (by rfl) ?_
    refine ⟨_, rfl, ?_⟩
    refine ⟨fun hb => ?_, fun hb => ?_⟩
    · simp [D.eqf] at hb
    refine w_nil ?_
    refine w_nil ?_
    exact ⟨[_, _, _, _, _, _, _, _, _, _, _], rfl, ⟨cS, _, _, _, _, _, _, _, _, _, _, _, (by omega), rfl, rfl⟩⟩
  rintro vs μ' ⟨c, w2, w3, w4, w6, w7, w8, w9, w10, w11, w12, w13, hc, rfl, rfl⟩
  refine wSs_rho (ρ' := [_, _, _, _, _, _, _, _, _, _, _, _, _, _]) rfl ?_
  -- return True
  refine w_cons (w_ret ?_)
  refine w_bl ?_
  exact k _
theorem ok_all {f : Addr} {fd : FuncData} (T : Tx mg) {cs : Cs} (TC : Tc K mg cs) (B0 : Src K mg "differ" s_differ ["one", "other"]) (B1 : Src K mg "both_go" s_both_go ["machine", "one", "other", "ask"]) (B2 : Src K mg "are_unlike" s_are_unlike ["machine", "one", "other", "ask"]) (B3 : Src K mg "pairs_of" s_pairs_of ["machine"]) (B4 : Src K mg "came_from" s_came_from ["machine"]) (B5 : Src K mg "part_table" s_part_table ["machine"]) (B6 : Src K mg "parting" s_parting ["machine", "one", "other"]) (B7 : Src K mg "followers" s_followers ["machine", "rooms", "ask"]) (B8 : Src K mg "first_try" s_first_try []) (B9 : Src K mg "settled" s_settled ["machine", "lots", "ways"]) (B10 : Src K mg "cut_of" s_cut_of ["table", "lots"]) (B11 : Src K mg "is_gap" s_is_gap ["machine", "lots", "ways", "i", "ask"]) (B12 : Src K mg "first_gap" s_first_gap ["machine", "lots", "ways"]) (B13 : Src K mg "led_to" s_led_to ["machine", "lots", "ways", "gap", "m"]) (B14 : Src K mg "gone_through" s_gone_through ["machine", "m", "most"]) (B15 : Src K mg "tree_for" s_tree_for ["machine", "table", "m", "lots", "ways"]) (B16 : Src K mg "told_paper" s_told_paper ["machine", "many"]) (B17 : Src K mg "answer_of" s_answer_of ["machine", "lot", "ask"]) (B18 : Src K mg "machine_of" s_machine_of ["machine", "lots", "ways"]) (B19 : Src K mg "least" s_least ["machine"]) (B20 : Src K mg "told_answers" s_told_answers ["sheet"]) (B21 : Src K mg "beginnings" s_beginnings ["sheet"]) (B22 : Src K mg "tree_of" s_tree_of ["asks", "sheet"]) (B23 : Src K mg "least_of" s_least_of ["asks", "sheet"]) (B24 : Src K mg "_law_pen" s__law_pen ["_law_script"]) (B25 : Src K mg "_law_draw" s__law_draw ["_law_pen_here", "_law_many"]) (B26 : Src K mg "_law_small" s__law_small ["_law_pen_here", "_law_asks", "_law_most"]) (B27 : Src K mg "_law_begun" s__law_begun ["_law_sheet_here"]) (B28 : Src K mg "_law_told_row" s__law_told_row ["_law_pen_here", "_law_rooms", "_law_row", "_law_share"]) (B29 : Src K mg "_law_sheet" s__law_sheet ["_law_pen_here", "_law_rooms", "_law_many", "_law_most"]) (B30 : Src K mg "_law_words" s__law_words ["_law_caught"]) (B31 : Src K mg "_law_due" s__law_due ["_law_sheet_here"]) (B32 : Src K mg "_law_heard" s__law_heard ["_law_which", "_law_asks", "_law_sheet_here"]) (B33 : Src K mg "_law_bent" s__law_bent ["_law_sheet_here", "_law_spots", "_law_many"]) (B34 : Src K mg "_law_made_right" s__law_made_right ["_law_one", "_law_other"]) (FL : Fun K "law" "law" s_law f fd) : FnG P w K mg base 7 f fd ["_law_script"] S_law :=
  have GD := ok_draw (P := P) (w := w) (base := base) B25 T
  have GB := ok_begun (P := P) (w := w) (base := base) B27 T
  have GT := ok_treeX B22 T TC (ok_knownX (P := P) (w := w) (base := base) B20 T TC) (ok_beg (P := P) (w := w) (base := base) B21 T)
  have GL := ok_leastofX B23 T TC GT (ok_leastF (P := P) (w := w) (base := base) B19)
  have GW := ok_wordsM (P := P) (w := w) (base := base) B30 T TC
  have GC := ok_wordsC (P := P) (w := w) (base := base) B30 T TC
  ok_law FL T TC GT GL (ok_pen B24 T) GD (ok_mright B34 T TC GC) (ok_small B26 T GD) (ok_sheet B29 T GD (ok_trow B28 T GD) GB) (ok_bent37 B33 T) (ok_due B31 T GB) (ok_heardT B32 T TC GT GW GC) (ok_heardL B32 T TC GL GW GC)
end
end L37

namespace L37
open PySem PySem.Spec L2 Oc
theorem all_mk {l : PySem.W.OpenLaw} {w : World} {K : PySem.W.Frag} {h : Heap} {mg : Str → Option Value} {fa f0 f1 f2 f3 f4 f5 f6 f7 f8 f9 f10 f11 f12 f13 f14 f15 f16 f17 f18 f19 f20 f21 f22 f23 f24 f25 f26 f27 f28 f29 f30 f31 f32 f33 f34 f35 : Addr} (X : K.In h) (G : h.Ns mainGlobals mg) (hfa : mg "law" = some (.ref fa))
    {od0 an0 od1 an1 od2 an2 od3 an3 od4 an4 od5 an5 od6 an6 od7 an7 od8 an8 od9 an9 od10 an10 od11 an11 od12 an12 od13 an13 od14 an14 od15 an15 od16 an16 od17 an17 od18 an18 od19 an19 od20 an20 od21 an21 od22 an22 od23 an23 od24 an24 od25 an25 od26 an26 od27 an27 od28 an28 od29 an29 od30 an30 od31 an31 od32 an32 od33 an33 od34 an34 od35 an35 : Option Addr} {sl0 sl1 sl2 sl3 sl4 sl5 sl6 sl7 sl8 sl9 sl10 sl11 sl12 sl13 sl14 sl15 sl16 sl17 sl18 sl19 sl20 sl21 sl22 sl23 sl24 sl25 sl26 sl27 sl28 sl29 sl30 sl31 sl32 sl33 sl34 sl35 : Array (Option Value)} {oc0 kV0 dc0 pm0 cd0 ct0 oc1 kV1 dc1 pm1 cd1 ct1 oc2 kV2 dc2 pm2 cd2 ct2 oc3 kV3 dc3 pm3 cd3 ct3 oc4 kV4 dc4 pm4 cd4 ct4 oc5 kV5 dc5 pm5 cd5 ct5 oc6 kV6 dc6 pm6 cd6 ct6 oc7 kV7 dc7 pm7 cd7 ct7 oc8 kV8 dc8 pm8 cd8 ct8 oc9 kV9 dc9 pm9 cd9 ct9 oc10 kV10 dc10 pm10 cd10 ct10 oc11 kV11 dc11 pm11 cd11 ct11 oc12 kV12 dc12 pm12 cd12 ct12 oc13 kV13 dc13 pm13 cd13 ct13 oc14 kV14 dc14 pm14 cd14 ct14 oc15 kV15 dc15 pm15 cd15 ct15 oc16 kV16 dc16 pm16 cd16 ct16 oc17 kV17 dc17 pm17 cd17 ct17 oc18 kV18 dc18 pm18 cd18 ct18 oc19 kV19 dc19 pm19 cd19 ct19 oc20 kV20 dc20 pm20 cd20 ct20 oc21 kV21 dc21 pm21 cd21 ct21 oc22 kV22 dc22 pm22 cd22 ct22 oc23 kV23 dc23 pm23 cd23 ct23 oc24 kV24 dc24 pm24 cd24 ct24 oc25 kV25 dc25 pm25 cd25 ct25 oc26 kV26 dc26 pm26 cd26 ct26 oc27 kV27 dc27 pm27 cd27 ct27 oc28 kV28 dc28 pm28 cd28 ct28 oc29 kV29 dc29 pm29 cd29 ct29 oc30 kV30 dc30 pm30 cd30 ct30 oc31 kV31 dc31 pm31 cd31 ct31 oc32 kV32 dc32 pm32 cd32 ct32 oc33 kV33 dc33 pm33 cd33 ct33 oc34 kV34 dc34 pm34 cd34 ct34 oc35 kV35 dc35 pm35 cd35 ct35 : Value}
    (a0 : PySem.W.nsIn K mainGlobals "differ" = some (some (.ref f0))) (l0 : K.lookup f0 = some ⟨oc0, od0, .func (PySem.W.fnOf "differ" "differ" (defArgs s_differ) (defBody s_differ) (defScope s_differ) .none kV0 dc0 pm0 an0 cd0 ct0), sl0⟩) (c0 : PySem.W.codeIn K cd0 "differ" = true) (k0 : PySem.W.keepIn K (.ref f0) = true)
    (a1 : PySem.W.nsIn K mainGlobals "both_go" = some (some (.ref f1))) (l1 : K.lookup f1 = some ⟨oc1, od1, .func (PySem.W.fnOf "both_go" "both_go" (defArgs s_both_go) (defBody s_both_go) (defScope s_both_go) .none kV1 dc1 pm1 an1 cd1 ct1), sl1⟩) (c1 : PySem.W.codeIn K cd1 "both_go" = true) (k1 : PySem.W.keepIn K (.ref f1) = true)
    (a2 : PySem.W.nsIn K mainGlobals "are_unlike" = some (some (.ref f2))) (l2 : K.lookup f2 = some ⟨oc2, od2, .func (PySem.W.fnOf "are_unlike" "are_unlike" (defArgs s_are_unlike) (defBody s_are_unlike) (defScope s_are_unlike) .none kV2 dc2 pm2 an2 cd2 ct2), sl2⟩) (c2 : PySem.W.codeIn K cd2 "are_unlike" = true) (k2 : PySem.W.keepIn K (.ref f2) = true)
    (a3 : PySem.W.nsIn K mainGlobals "pairs_of" = some (some (.ref f3))) (l3 : K.lookup f3 = some ⟨oc3, od3, .func (PySem.W.fnOf "pairs_of" "pairs_of" (defArgs s_pairs_of) (defBody s_pairs_of) (defScope s_pairs_of) .none kV3 dc3 pm3 an3 cd3 ct3), sl3⟩) (c3 : PySem.W.codeIn K cd3 "pairs_of" = true) (k3 : PySem.W.keepIn K (.ref f3) = true)
    (a4 : PySem.W.nsIn K mainGlobals "came_from" = some (some (.ref f4))) (l4 : K.lookup f4 = some ⟨oc4, od4, .func (PySem.W.fnOf "came_from" "came_from" (defArgs s_came_from) (defBody s_came_from) (defScope s_came_from) .none kV4 dc4 pm4 an4 cd4 ct4), sl4⟩) (c4 : PySem.W.codeIn K cd4 "came_from" = true) (k4 : PySem.W.keepIn K (.ref f4) = true)
    (a5 : PySem.W.nsIn K mainGlobals "part_table" = some (some (.ref f5))) (l5 : K.lookup f5 = some ⟨oc5, od5, .func (PySem.W.fnOf "part_table" "part_table" (defArgs s_part_table) (defBody s_part_table) (defScope s_part_table) .none kV5 dc5 pm5 an5 cd5 ct5), sl5⟩) (c5 : PySem.W.codeIn K cd5 "part_table" = true) (k5 : PySem.W.keepIn K (.ref f5) = true)
    (a6 : PySem.W.nsIn K mainGlobals "parting" = some (some (.ref f6))) (l6 : K.lookup f6 = some ⟨oc6, od6, .func (PySem.W.fnOf "parting" "parting" (defArgs s_parting) (defBody s_parting) (defScope s_parting) .none kV6 dc6 pm6 an6 cd6 ct6), sl6⟩) (c6 : PySem.W.codeIn K cd6 "parting" = true) (k6 : PySem.W.keepIn K (.ref f6) = true)
    (a7 : PySem.W.nsIn K mainGlobals "followers" = some (some (.ref f7))) (l7 : K.lookup f7 = some ⟨oc7, od7, .func (PySem.W.fnOf "followers" "followers" (defArgs s_followers) (defBody s_followers) (defScope s_followers) .none kV7 dc7 pm7 an7 cd7 ct7), sl7⟩) (c7 : PySem.W.codeIn K cd7 "followers" = true) (k7 : PySem.W.keepIn K (.ref f7) = true)
    (a8 : PySem.W.nsIn K mainGlobals "first_try" = some (some (.ref f8))) (l8 : K.lookup f8 = some ⟨oc8, od8, .func (PySem.W.fnOf "first_try" "first_try" (defArgs s_first_try) (defBody s_first_try) (defScope s_first_try) .none kV8 dc8 pm8 an8 cd8 ct8), sl8⟩) (c8 : PySem.W.codeIn K cd8 "first_try" = true) (k8 : PySem.W.keepIn K (.ref f8) = true)
    (a9 : PySem.W.nsIn K mainGlobals "settled" = some (some (.ref f9))) (l9 : K.lookup f9 = some ⟨oc9, od9, .func (PySem.W.fnOf "settled" "settled" (defArgs s_settled) (defBody s_settled) (defScope s_settled) .none kV9 dc9 pm9 an9 cd9 ct9), sl9⟩) (c9 : PySem.W.codeIn K cd9 "settled" = true) (k9 : PySem.W.keepIn K (.ref f9) = true)
    (a10 : PySem.W.nsIn K mainGlobals "cut_of" = some (some (.ref f10))) (l10 : K.lookup f10 = some ⟨oc10, od10, .func (PySem.W.fnOf "cut_of" "cut_of" (defArgs s_cut_of) (defBody s_cut_of) (defScope s_cut_of) .none kV10 dc10 pm10 an10 cd10 ct10), sl10⟩) (c10 : PySem.W.codeIn K cd10 "cut_of" = true) (k10 : PySem.W.keepIn K (.ref f10) = true)
    (a11 : PySem.W.nsIn K mainGlobals "is_gap" = some (some (.ref f11))) (l11 : K.lookup f11 = some ⟨oc11, od11, .func (PySem.W.fnOf "is_gap" "is_gap" (defArgs s_is_gap) (defBody s_is_gap) (defScope s_is_gap) .none kV11 dc11 pm11 an11 cd11 ct11), sl11⟩) (c11 : PySem.W.codeIn K cd11 "is_gap" = true) (k11 : PySem.W.keepIn K (.ref f11) = true)
    (a12 : PySem.W.nsIn K mainGlobals "first_gap" = some (some (.ref f12))) (l12 : K.lookup f12 = some ⟨oc12, od12, .func (PySem.W.fnOf "first_gap" "first_gap" (defArgs s_first_gap) (defBody s_first_gap) (defScope s_first_gap) .none kV12 dc12 pm12 an12 cd12 ct12), sl12⟩) (c12 : PySem.W.codeIn K cd12 "first_gap" = true) (k12 : PySem.W.keepIn K (.ref f12) = true)
    (a13 : PySem.W.nsIn K mainGlobals "led_to" = some (some (.ref f13))) (l13 : K.lookup f13 = some ⟨oc13, od13, .func (PySem.W.fnOf "led_to" "led_to" (defArgs s_led_to) (defBody s_led_to) (defScope s_led_to) .none kV13 dc13 pm13 an13 cd13 ct13), sl13⟩) (c13 : PySem.W.codeIn K cd13 "led_to" = true) (k13 : PySem.W.keepIn K (.ref f13) = true)
    (a14 : PySem.W.nsIn K mainGlobals "gone_through" = some (some (.ref f14))) (l14 : K.lookup f14 = some ⟨oc14, od14, .func (PySem.W.fnOf "gone_through" "gone_through" (defArgs s_gone_through) (defBody s_gone_through) (defScope s_gone_through) .none kV14 dc14 pm14 an14 cd14 ct14), sl14⟩) (c14 : PySem.W.codeIn K cd14 "gone_through" = true) (k14 : PySem.W.keepIn K (.ref f14) = true)
    (a15 : PySem.W.nsIn K mainGlobals "tree_for" = some (some (.ref f15))) (l15 : K.lookup f15 = some ⟨oc15, od15, .func (PySem.W.fnOf "tree_for" "tree_for" (defArgs s_tree_for) (defBody s_tree_for) (defScope s_tree_for) .none kV15 dc15 pm15 an15 cd15 ct15), sl15⟩) (c15 : PySem.W.codeIn K cd15 "tree_for" = true) (k15 : PySem.W.keepIn K (.ref f15) = true)
    (a16 : PySem.W.nsIn K mainGlobals "told_paper" = some (some (.ref f16))) (l16 : K.lookup f16 = some ⟨oc16, od16, .func (PySem.W.fnOf "told_paper" "told_paper" (defArgs s_told_paper) (defBody s_told_paper) (defScope s_told_paper) .none kV16 dc16 pm16 an16 cd16 ct16), sl16⟩) (c16 : PySem.W.codeIn K cd16 "told_paper" = true) (k16 : PySem.W.keepIn K (.ref f16) = true)
    (a17 : PySem.W.nsIn K mainGlobals "answer_of" = some (some (.ref f17))) (l17 : K.lookup f17 = some ⟨oc17, od17, .func (PySem.W.fnOf "answer_of" "answer_of" (defArgs s_answer_of) (defBody s_answer_of) (defScope s_answer_of) .none kV17 dc17 pm17 an17 cd17 ct17), sl17⟩) (c17 : PySem.W.codeIn K cd17 "answer_of" = true) (k17 : PySem.W.keepIn K (.ref f17) = true)
    (a18 : PySem.W.nsIn K mainGlobals "machine_of" = some (some (.ref f18))) (l18 : K.lookup f18 = some ⟨oc18, od18, .func (PySem.W.fnOf "machine_of" "machine_of" (defArgs s_machine_of) (defBody s_machine_of) (defScope s_machine_of) .none kV18 dc18 pm18 an18 cd18 ct18), sl18⟩) (c18 : PySem.W.codeIn K cd18 "machine_of" = true) (k18 : PySem.W.keepIn K (.ref f18) = true)
    (a19 : PySem.W.nsIn K mainGlobals "least" = some (some (.ref f19))) (l19 : K.lookup f19 = some ⟨oc19, od19, .func (PySem.W.fnOf "least" "least" (defArgs s_least) (defBody s_least) (defScope s_least) .none kV19 dc19 pm19 an19 cd19 ct19), sl19⟩) (c19 : PySem.W.codeIn K cd19 "least" = true) (k19 : PySem.W.keepIn K (.ref f19) = true)
    (a20 : PySem.W.nsIn K mainGlobals "told_answers" = some (some (.ref f20))) (l20 : K.lookup f20 = some ⟨oc20, od20, .func (PySem.W.fnOf "told_answers" "told_answers" (defArgs s_told_answers) (defBody s_told_answers) (defScope s_told_answers) .none kV20 dc20 pm20 an20 cd20 ct20), sl20⟩) (c20 : PySem.W.codeIn K cd20 "told_answers" = true) (k20 : PySem.W.keepIn K (.ref f20) = true)
    (a21 : PySem.W.nsIn K mainGlobals "beginnings" = some (some (.ref f21))) (l21 : K.lookup f21 = some ⟨oc21, od21, .func (PySem.W.fnOf "beginnings" "beginnings" (defArgs s_beginnings) (defBody s_beginnings) (defScope s_beginnings) .none kV21 dc21 pm21 an21 cd21 ct21), sl21⟩) (c21 : PySem.W.codeIn K cd21 "beginnings" = true) (k21 : PySem.W.keepIn K (.ref f21) = true)
    (a22 : PySem.W.nsIn K mainGlobals "tree_of" = some (some (.ref f22))) (l22 : K.lookup f22 = some ⟨oc22, od22, .func (PySem.W.fnOf "tree_of" "tree_of" (defArgs s_tree_of) (defBody s_tree_of) (defScope s_tree_of) .none kV22 dc22 pm22 an22 cd22 ct22), sl22⟩) (c22 : PySem.W.codeIn K cd22 "tree_of" = true) (k22 : PySem.W.keepIn K (.ref f22) = true)
    (a23 : PySem.W.nsIn K mainGlobals "least_of" = some (some (.ref f23))) (l23 : K.lookup f23 = some ⟨oc23, od23, .func (PySem.W.fnOf "least_of" "least_of" (defArgs s_least_of) (defBody s_least_of) (defScope s_least_of) .none kV23 dc23 pm23 an23 cd23 ct23), sl23⟩) (c23 : PySem.W.codeIn K cd23 "least_of" = true) (k23 : PySem.W.keepIn K (.ref f23) = true)
    (a24 : PySem.W.nsIn K mainGlobals "_law_pen" = some (some (.ref f24))) (l24 : K.lookup f24 = some ⟨oc24, od24, .func (PySem.W.fnOf "_law_pen" "_law_pen" (defArgs s__law_pen) (defBody s__law_pen) (defScope s__law_pen) .none kV24 dc24 pm24 an24 cd24 ct24), sl24⟩) (c24 : PySem.W.codeIn K cd24 "_law_pen" = true) (k24 : PySem.W.keepIn K (.ref f24) = true)
    (a25 : PySem.W.nsIn K mainGlobals "_law_draw" = some (some (.ref f25))) (l25 : K.lookup f25 = some ⟨oc25, od25, .func (PySem.W.fnOf "_law_draw" "_law_draw" (defArgs s__law_draw) (defBody s__law_draw) (defScope s__law_draw) .none kV25 dc25 pm25 an25 cd25 ct25), sl25⟩) (c25 : PySem.W.codeIn K cd25 "_law_draw" = true) (k25 : PySem.W.keepIn K (.ref f25) = true)
    (a26 : PySem.W.nsIn K mainGlobals "_law_small" = some (some (.ref f26))) (l26 : K.lookup f26 = some ⟨oc26, od26, .func (PySem.W.fnOf "_law_small" "_law_small" (defArgs s__law_small) (defBody s__law_small) (defScope s__law_small) .none kV26 dc26 pm26 an26 cd26 ct26), sl26⟩) (c26 : PySem.W.codeIn K cd26 "_law_small" = true) (k26 : PySem.W.keepIn K (.ref f26) = true)
    (a27 : PySem.W.nsIn K mainGlobals "_law_begun" = some (some (.ref f27))) (l27 : K.lookup f27 = some ⟨oc27, od27, .func (PySem.W.fnOf "_law_begun" "_law_begun" (defArgs s__law_begun) (defBody s__law_begun) (defScope s__law_begun) .none kV27 dc27 pm27 an27 cd27 ct27), sl27⟩) (c27 : PySem.W.codeIn K cd27 "_law_begun" = true) (k27 : PySem.W.keepIn K (.ref f27) = true)
    (a28 : PySem.W.nsIn K mainGlobals "_law_told_row" = some (some (.ref f28))) (l28 : K.lookup f28 = some ⟨oc28, od28, .func (PySem.W.fnOf "_law_told_row" "_law_told_row" (defArgs s__law_told_row) (defBody s__law_told_row) (defScope s__law_told_row) .none kV28 dc28 pm28 an28 cd28 ct28), sl28⟩) (c28 : PySem.W.codeIn K cd28 "_law_told_row" = true) (k28 : PySem.W.keepIn K (.ref f28) = true)
    (a29 : PySem.W.nsIn K mainGlobals "_law_sheet" = some (some (.ref f29))) (l29 : K.lookup f29 = some ⟨oc29, od29, .func (PySem.W.fnOf "_law_sheet" "_law_sheet" (defArgs s__law_sheet) (defBody s__law_sheet) (defScope s__law_sheet) .none kV29 dc29 pm29 an29 cd29 ct29), sl29⟩) (c29 : PySem.W.codeIn K cd29 "_law_sheet" = true) (k29 : PySem.W.keepIn K (.ref f29) = true)
    (a30 : PySem.W.nsIn K mainGlobals "_law_words" = some (some (.ref f30))) (l30 : K.lookup f30 = some ⟨oc30, od30, .func (PySem.W.fnOf "_law_words" "_law_words" (defArgs s__law_words) (defBody s__law_words) (defScope s__law_words) .none kV30 dc30 pm30 an30 cd30 ct30), sl30⟩) (c30 : PySem.W.codeIn K cd30 "_law_words" = true) (k30 : PySem.W.keepIn K (.ref f30) = true)
    (a31 : PySem.W.nsIn K mainGlobals "_law_due" = some (some (.ref f31))) (l31 : K.lookup f31 = some ⟨oc31, od31, .func (PySem.W.fnOf "_law_due" "_law_due" (defArgs s__law_due) (defBody s__law_due) (defScope s__law_due) .none kV31 dc31 pm31 an31 cd31 ct31), sl31⟩) (c31 : PySem.W.codeIn K cd31 "_law_due" = true) (k31 : PySem.W.keepIn K (.ref f31) = true)
    (a32 : PySem.W.nsIn K mainGlobals "_law_heard" = some (some (.ref f32))) (l32 : K.lookup f32 = some ⟨oc32, od32, .func (PySem.W.fnOf "_law_heard" "_law_heard" (defArgs s__law_heard) (defBody s__law_heard) (defScope s__law_heard) .none kV32 dc32 pm32 an32 cd32 ct32), sl32⟩) (c32 : PySem.W.codeIn K cd32 "_law_heard" = true) (k32 : PySem.W.keepIn K (.ref f32) = true)
    (a33 : PySem.W.nsIn K mainGlobals "_law_bent" = some (some (.ref f33))) (l33 : K.lookup f33 = some ⟨oc33, od33, .func (PySem.W.fnOf "_law_bent" "_law_bent" (defArgs s__law_bent) (defBody s__law_bent) (defScope s__law_bent) .none kV33 dc33 pm33 an33 cd33 ct33), sl33⟩) (c33 : PySem.W.codeIn K cd33 "_law_bent" = true) (k33 : PySem.W.keepIn K (.ref f33) = true)
    (a34 : PySem.W.nsIn K mainGlobals "_law_made_right" = some (some (.ref f34))) (l34 : K.lookup f34 = some ⟨oc34, od34, .func (PySem.W.fnOf "_law_made_right" "_law_made_right" (defArgs s__law_made_right) (defBody s__law_made_right) (defScope s__law_made_right) .none kV34 dc34 pm34 an34 cd34 ct34), sl34⟩) (c34 : PySem.W.codeIn K cd34 "_law_made_right" = true) (k34 : PySem.W.keepIn K (.ref f34) = true)
    (a35 : PySem.W.nsIn K mainGlobals "law" = some (some (.ref f35))) (l35 : K.lookup f35 = some ⟨oc35, od35, .func (PySem.W.fnOf "law" "law" (defArgs s_law) (defBody s_law) (defScope s_law) .none kV35 dc35 pm35 an35 cd35 ct35), sl35⟩) (c35 : PySem.W.codeIn K cd35 "law" = true) (k35 : PySem.W.keepIn K (.ref f35) = true)
    (z_ValueError : PySem.W.nsIn K mainGlobals "ValueError" = some none)
    (z_len : PySem.W.nsIn K mainGlobals "len" = some none)
    (z_tuple : PySem.W.nsIn K mainGlobals "tuple" = some none)
    (z_list : PySem.W.nsIn K mainGlobals "list" = some none)
    (z_enumerate : PySem.W.nsIn K mainGlobals "enumerate" = some none)
    (z_range : PySem.W.nsIn K mainGlobals "range" = some none)
    (z_isinstance : PySem.W.nsIn K mainGlobals "isinstance" = some none)
    (z_any : PySem.W.nsIn K mainGlobals "any" = some none)
    (z_sorted : PySem.W.nsIn K mainGlobals "sorted" = some none)
    (z_min : PySem.W.nsIn K mainGlobals "min" = some none)
    (z_dict : PySem.W.nsIn K mainGlobals "dict" = some none)
    (z_repr : PySem.W.nsIn K mainGlobals "repr" = some none)
    (z_set : PySem.W.nsIn K mainGlobals "set" = some none)
    (z_int : PySem.W.nsIn K mainGlobals "int" = some none)
    (z_abs : PySem.W.nsIn K mainGlobals "abs" = some none)
    (z_bool : PySem.W.nsIn K mainGlobals "bool" = some none)
    {tk_MOST_TRIES : Tok} (zc_MOST_TRIES : PySem.W.nsIn K mainGlobals "MOST_TRIES" = some (some (.int 300 tk_MOST_TRIES)))
    {tk_MOST_ROOMS : Tok} (zc_MOST_ROOMS : PySem.W.nsIn K mainGlobals "MOST_ROOMS" = some (some (.int 24 tk_MOST_ROOMS)))
    {qCellError qClash qTooMany qNotClosed qUnlike qNotFull qUnreached qNoWords qNotOpen qNoBack qNoText qNoName qNoLine : Addr}
    {nmClash qnClash : Str} {NClash qiClash : Addr} {bsClash bmClash subClash : List Value} {snClash : List Str} {abClash : Bool} {colClash : Option Bool} {ddClash idClash iaClash : Option Addr} {k0Clash k1Clash k2Clash k3Clash k5Clash : Option Value} {ioClash ikClash icClash ipClash ieClash igClash : Value} {islClash : Array (Option Value)}
    (y_g_CellError : PySem.W.nsIn K mainGlobals "CellError" = some (some (.ref qCellError)))
    (y_g_Clash : PySem.W.nsIn K mainGlobals "Clash" = some (some (.ref qClash)))
    (y_g_TooMany : PySem.W.nsIn K mainGlobals "TooMany" = some (some (.ref qTooMany)))
    (y_g_NotClosed : PySem.W.nsIn K mainGlobals "NotClosed" = some (some (.ref qNotClosed)))
    (y_g_Unlike : PySem.W.nsIn K mainGlobals "Unlike" = some (some (.ref qUnlike)))
    (y_g_NotFull : PySem.W.nsIn K mainGlobals "NotFull" = some (some (.ref qNotFull)))
    (y_g_Unreached : PySem.W.nsIn K mainGlobals "Unreached" = some (some (.ref qUnreached)))
    (y_g_NoWords : PySem.W.nsIn K mainGlobals "NoWords" = some (some (.ref qNoWords)))
    (y_g_NotOpen : PySem.W.nsIn K mainGlobals "NotOpen" = some (some (.ref qNotOpen)))
    (y_g_NoBack : PySem.W.nsIn K mainGlobals "NoBack" = some (some (.ref qNoBack)))
    (y_g_NoText : PySem.W.nsIn K mainGlobals "NoText" = some (some (.ref qNoText)))
    (y_g_NoName : PySem.W.nsIn K mainGlobals "NoName" = some (some (.ref qNoName)))
    (y_g_NoLine : PySem.W.nsIn K mainGlobals "NoLine" = some (some (.ref qNoLine)))
    (y_c_CellError : PySem.W.isClsIn K qCellError = true)
    (y_ty_CellError : PySem.W.typeIn K (.ref qCellError) = some (.type "type"))
    (y_c_Clash : PySem.W.isClsIn K qClash = true)
    (y_ty_Clash : PySem.W.typeIn K (.ref qClash) = some (.type "type"))
    (y_c_TooMany : PySem.W.isClsIn K qTooMany = true)
    (y_ty_TooMany : PySem.W.typeIn K (.ref qTooMany) = some (.type "type"))
    (y_c_NotClosed : PySem.W.isClsIn K qNotClosed = true)
    (y_ty_NotClosed : PySem.W.typeIn K (.ref qNotClosed) = some (.type "type"))
    (y_c_Unlike : PySem.W.isClsIn K qUnlike = true)
    (y_ty_Unlike : PySem.W.typeIn K (.ref qUnlike) = some (.type "type"))
    (y_c_NotFull : PySem.W.isClsIn K qNotFull = true)
    (y_ty_NotFull : PySem.W.typeIn K (.ref qNotFull) = some (.type "type"))
    (y_c_Unreached : PySem.W.isClsIn K qUnreached = true)
    (y_ty_Unreached : PySem.W.typeIn K (.ref qUnreached) = some (.type "type"))
    (y_c_NoWords : PySem.W.isClsIn K qNoWords = true)
    (y_ty_NoWords : PySem.W.typeIn K (.ref qNoWords) = some (.type "type"))
    (y_c_NotOpen : PySem.W.isClsIn K qNotOpen = true)
    (y_ty_NotOpen : PySem.W.typeIn K (.ref qNotOpen) = some (.type "type"))
    (y_c_NoBack : PySem.W.isClsIn K qNoBack = true)
    (y_ty_NoBack : PySem.W.typeIn K (.ref qNoBack) = some (.type "type"))
    (y_c_NoText : PySem.W.isClsIn K qNoText = true)
    (y_ty_NoText : PySem.W.typeIn K (.ref qNoText) = some (.type "type"))
    (y_c_NoName : PySem.W.isClsIn K qNoName = true)
    (y_ty_NoName : PySem.W.typeIn K (.ref qNoName) = some (.type "type"))
    (y_c_NoLine : PySem.W.isClsIn K qNoLine = true)
    (y_ty_NoLine : PySem.W.typeIn K (.ref qNoLine) = some (.type "type"))
    (y_sb_CellError : PySem.W.subIn K (.ref qCellError) (.type "BaseException") = some true)
    (y_z_TooMany : PySem.W.subIn K (.ref qTooMany) (.ref qTooMany) = some true)
    (y_zv_TooMany : PySem.W.subIn K (.ref qTooMany) (.type "ValueError") = some true)
    (y_zi_TooMany_CellError : PySem.W.subIn K (.ref qTooMany) (.ref qCellError) = some true)
    (y_zi_TooMany_Clash : PySem.W.subIn K (.ref qTooMany) (.ref qClash) = some false)
    (y_zi_TooMany_TooMany : PySem.W.subIn K (.ref qTooMany) (.ref qTooMany) = some true)
    (y_zi_TooMany_NotClosed : PySem.W.subIn K (.ref qTooMany) (.ref qNotClosed) = some false)
    (y_zi_TooMany_Unlike : PySem.W.subIn K (.ref qTooMany) (.ref qUnlike) = some false)
    (y_zi_TooMany_NotFull : PySem.W.subIn K (.ref qTooMany) (.ref qNotFull) = some false)
    (y_zi_TooMany_Unreached : PySem.W.subIn K (.ref qTooMany) (.ref qUnreached) = some false)
    (y_zi_TooMany_NoWords : PySem.W.subIn K (.ref qTooMany) (.ref qNoWords) = some false)
    (y_zi_TooMany_NotOpen : PySem.W.subIn K (.ref qTooMany) (.ref qNotOpen) = some false)
    (y_zi_TooMany_NoBack : PySem.W.subIn K (.ref qTooMany) (.ref qNoBack) = some false)
    (y_zi_TooMany_NoText : PySem.W.subIn K (.ref qTooMany) (.ref qNoText) = some false)
    (y_zi_TooMany_NoName : PySem.W.subIn K (.ref qTooMany) (.ref qNoName) = some false)
    (y_zi_TooMany_NoLine : PySem.W.subIn K (.ref qTooMany) (.ref qNoLine) = some false)
    (y_z_Clash : PySem.W.subIn K (.ref qClash) (.ref qClash) = some true)
    (y_zv_Clash : PySem.W.subIn K (.ref qClash) (.type "ValueError") = some true)
    (y_zi_Clash_CellError : PySem.W.subIn K (.ref qClash) (.ref qCellError) = some true)
    (y_zi_Clash_Clash : PySem.W.subIn K (.ref qClash) (.ref qClash) = some true)
    (y_zi_Clash_TooMany : PySem.W.subIn K (.ref qClash) (.ref qTooMany) = some false)
    (y_zi_Clash_NotClosed : PySem.W.subIn K (.ref qClash) (.ref qNotClosed) = some false)
    (y_zi_Clash_Unlike : PySem.W.subIn K (.ref qClash) (.ref qUnlike) = some false)
    (y_zi_Clash_NotFull : PySem.W.subIn K (.ref qClash) (.ref qNotFull) = some false)
    (y_zi_Clash_Unreached : PySem.W.subIn K (.ref qClash) (.ref qUnreached) = some false)
    (y_zi_Clash_NoWords : PySem.W.subIn K (.ref qClash) (.ref qNoWords) = some false)
    (y_zi_Clash_NotOpen : PySem.W.subIn K (.ref qClash) (.ref qNotOpen) = some false)
    (y_zi_Clash_NoBack : PySem.W.subIn K (.ref qClash) (.ref qNoBack) = some false)
    (y_zi_Clash_NoText : PySem.W.subIn K (.ref qClash) (.ref qNoText) = some false)
    (y_zi_Clash_NoName : PySem.W.subIn K (.ref qClash) (.ref qNoName) = some false)
    (y_zi_Clash_NoLine : PySem.W.subIn K (.ref qClash) (.ref qNoLine) = some false)
    (y_oc_Clash : K.lookup qClash = some (excClassObj nmClash qnClash qClash NClash bsClash bmClash true snClash subClash abClash colClash ddClash k0Clash k1Clash k2Clash k3Clash k5Clash "ValueError.__new__"))
    (y_ov_Clash : PySem.HandSPX.refsVE bmClash = true)
    (y_os_Clash : PySem.W.findIn K (.ref qClash) "__setattr__" = some (some (.builtin "object.__setattr__")))
    (y_oi_Clash : PySem.W.findIn K (.ref qClash) "__init__" = some (some (.ref qiClash)))
    (y_ot_Clash : PySem.W.typeIn K (.ref qiClash) = some (.type "function"))
    (y_ol_Clash : K.lookup qiClash = some ⟨ioClash, idClash, .func (PySem.W.fnOf "__init__" "Clash.__init__" (defArgs s_Clash__init__) (defBody s_Clash__init__) (defScope s_Clash__init__) .none ikClash icClash ipClash iaClash ieClash igClash), islClash⟩)
    (y_oj_Clash : PySem.W.codeIn K ieClash "Clash.__init__" = true)
    (y_ok_Clash : PySem.W.keepIn K (.ref qiClash) = true)
    (y_vs_CellError : PySem.W.specialIn K (.ref qCellError) "__getattribute__" = some (some (.builtin "type.__getattribute__")))
    (y_vr_CellError : PySem.W.readsIn K qCellError (.type "type") = true)
    (y_vv_CellError : PySem.W.findCls K (.ref qCellError) (.type "type") "__init__" = some (.val (.builtin "ValueError.__init__")))
    (y_k_TooMany : PySem.W.keepIn K (.ref qTooMany) = true)
    (y_s_TooMany : PySem.W.subIn K (.ref qTooMany) (.type "BaseException") = some true)
    (y_t_TooMany : PySem.W.typeIn K (.ref qTooMany) = some (.type "type"))
    (y_x_TooMany : PySem.W.excIn K qTooMany [.type "ValueError", .type "Exception", .type "BaseException", .type "object"] "ValueError.__new__" = true)
    (y_ea_TooMany : PySem.W.findIn K (.ref qTooMany) "__getattribute__" = some (some (.builtin "BaseException.__getattribute__")))
    (y_eb_TooMany : PySem.W.findIn K (.ref qTooMany) "__getattr__" = some none)
    (y_ec_TooMany : PySem.W.hasDictIn K qTooMany = true)
    (y_ed_TooMany : PySem.W.findIn K (.ref qTooMany) "__class__" = some (some (.builtin "object.__class__")))
    (y_ee_TooMany : PySem.W.mroIn K qTooMany (.type "object") = some true)
    (y_k_Clash : PySem.W.keepIn K (.ref qClash) = true)
    (y_s_Clash : PySem.W.subIn K (.ref qClash) (.type "BaseException") = some true)
    (y_t_Clash : PySem.W.typeIn K (.ref qClash) = some (.type "type"))
    (y_ea_Clash : PySem.W.findIn K (.ref qClash) "__getattribute__" = some (some (.builtin "BaseException.__getattribute__")))
    (y_eb_Clash : PySem.W.findIn K (.ref qClash) "__getattr__" = some none)
    (y_ec_Clash : PySem.W.hasDictIn K qClash = true)
    (y_ed_Clash : PySem.W.findIn K (.ref qClash) "__class__" = some (some (.builtin "object.__class__")))
    (y_ee_Clash : PySem.W.mroIn K qClash (.type "object") = some true)
    (y_of_Clash_row : PySem.W.findIn K (.ref qClash) "row" = some none)
    (y_of_Clash_place : PySem.W.findIn K (.ref qClash) "place" = some none)
    (y_en : PySem.W.specialIn K (.builtin "object.__class__") "__get__" = some (some (.builtin "getset_descriptor.__get__")))
    (y_et : PySem.W.takesIn K (.builtin "object.__class__") = some true)
    : ∃ fd : FuncData, (∀ (s : Shared) (v : Value), BindsTo s fd ⟨[v], []⟩ [("_law_script", v)]) ∧ ∀ base : Heap, K.In base → base.Ns mainGlobals mg → FnG l.prog w K mg base 7 fa fd ["_law_script"] S_law := by
  have T : Tx mg := ⟨PySem.W.mg_none_of X G z_ValueError, PySem.W.mg_none_of X G z_len, PySem.W.mg_none_of X G z_tuple, PySem.W.mg_none_of X G z_list, PySem.W.mg_none_of X G z_enumerate, PySem.W.mg_none_of X G z_range, PySem.W.mg_none_of X G z_isinstance, PySem.W.mg_none_of X G z_any, PySem.W.mg_none_of X G z_sorted, PySem.W.mg_none_of X G z_min, PySem.W.mg_none_of X G z_dict, PySem.W.mg_none_of X G z_repr, PySem.W.mg_none_of X G z_set, PySem.W.mg_none_of X G z_int, PySem.W.mg_none_of X G z_abs, PySem.W.mg_none_of X G z_bool, ⟨_, PySem.W.mg_of X G zc_MOST_TRIES⟩, ⟨_, PySem.W.mg_of X G zc_MOST_ROOMS⟩⟩
  have TC : Tc K mg ⟨qCellError, qClash, qTooMany, qNotClosed, qUnlike, qNotFull, qUnreached, qNoWords, qNotOpen, qNoBack, qNoText, qNoName, qNoLine⟩ := ⟨PySem.W.mg_of X G y_g_CellError, PySem.W.mg_of X G y_g_Clash, PySem.W.mg_of X G y_g_TooMany, PySem.W.mg_of X G y_g_NotClosed, PySem.W.mg_of X G y_g_Unlike, PySem.W.mg_of X G y_g_NotFull, PySem.W.mg_of X G y_g_Unreached, PySem.W.mg_of X G y_g_NoWords, PySem.W.mg_of X G y_g_NotOpen, PySem.W.mg_of X G y_g_NoBack, PySem.W.mg_of X G y_g_NoText, PySem.W.mg_of X G y_g_NoName, PySem.W.mg_of X G y_g_NoLine, y_k_TooMany, y_s_TooMany, y_t_TooMany, y_x_TooMany, y_ea_TooMany, y_eb_TooMany, y_ec_TooMany, y_ed_TooMany, y_ee_TooMany, kit_typ (by decide +kernel) y_zv_TooMany, kit_ref y_z_TooMany y_c_CellError y_ty_CellError y_zi_TooMany_CellError, kit_ref y_z_TooMany y_c_Clash y_ty_Clash y_zi_TooMany_Clash, kit_ref y_z_TooMany y_c_TooMany y_ty_TooMany y_zi_TooMany_TooMany, kit_ref y_z_TooMany y_c_NotClosed y_ty_NotClosed y_zi_TooMany_NotClosed, kit_ref y_z_TooMany y_c_Unlike y_ty_Unlike y_zi_TooMany_Unlike, kit_ref y_z_TooMany y_c_NotFull y_ty_NotFull y_zi_TooMany_NotFull, kit_ref y_z_TooMany y_c_Unreached y_ty_Unreached y_zi_TooMany_Unreached, kit_ref y_z_TooMany y_c_NoWords y_ty_NoWords y_zi_TooMany_NoWords, kit_ref y_z_TooMany y_c_NotOpen y_ty_NotOpen y_zi_TooMany_NotOpen, kit_ref y_z_TooMany y_c_NoBack y_ty_NoBack y_zi_TooMany_NoBack, kit_ref y_z_TooMany y_c_NoText y_ty_NoText y_zi_TooMany_NoText, kit_ref y_z_TooMany y_c_NoName y_ty_NoName y_zi_TooMany_NoName, kit_ref y_z_TooMany y_c_NoLine y_ty_NoLine y_zi_TooMany_NoLine, exm_of y_sb_CellError y_c_CellError y_ty_CellError y_zi_TooMany_CellError, y_k_Clash, y_s_Clash, y_t_Clash, y_ea_Clash, y_eb_Clash, y_ec_Clash, y_ed_Clash, y_ee_Clash, kit_typ (by decide +kernel) y_zv_Clash, kit_ref y_z_Clash y_c_CellError y_ty_CellError y_zi_Clash_CellError, kit_ref y_z_Clash y_c_Clash y_ty_Clash y_zi_Clash_Clash, kit_ref y_z_Clash y_c_TooMany y_ty_TooMany y_zi_Clash_TooMany, kit_ref y_z_Clash y_c_NotClosed y_ty_NotClosed y_zi_Clash_NotClosed, kit_ref y_z_Clash y_c_Unlike y_ty_Unlike y_zi_Clash_Unlike, kit_ref y_z_Clash y_c_NotFull y_ty_NotFull y_zi_Clash_NotFull, kit_ref y_z_Clash y_c_Unreached y_ty_Unreached y_zi_Clash_Unreached, kit_ref y_z_Clash y_c_NoWords y_ty_NoWords y_zi_Clash_NoWords, kit_ref y_z_Clash y_c_NotOpen y_ty_NotOpen y_zi_Clash_NotOpen, kit_ref y_z_Clash y_c_NoBack y_ty_NoBack y_zi_Clash_NoBack, kit_ref y_z_Clash y_c_NoText y_ty_NoText y_zi_Clash_NoText, kit_ref y_z_Clash y_c_NoName y_ty_NoName y_zi_Clash_NoName, kit_ref y_z_Clash y_c_NoLine y_ty_NoLine y_zi_Clash_NoLine, exm_of y_sb_CellError y_c_CellError y_ty_CellError y_zi_Clash_CellError, ⟨⟨nmClash, qnClash, NClash, bsClash, bmClash, snClash, subClash, abClash, colClash, ddClash, k0Clash, k1Clash, k2Clash, k3Clash, k5Clash, y_oc_Clash, y_ov_Clash⟩, y_os_Clash, y_s_Clash, y_t_Clash, y_k_Clash⟩, ⟨qiClash, _, y_oi_Clash, y_ot_Clash, fun_mk y_ol_Clash y_oj_Clash y_ok_Clash⟩, y_of_Clash_row, y_of_Clash_place, ⟨y_vs_CellError, y_ty_CellError, y_vr_CellError, y_vv_CellError⟩, y_en, y_et⟩
  have B0 : Src K mg "differ" s_differ ["one", "other"] := src_mk (PySem.W.mg_of X G a0) l0 c0 k0 fun _ _ _ _ _ _ us hl => match us, hl with | [_, _], _ => rfl
  have B1 : Src K mg "both_go" s_both_go ["machine", "one", "other", "ask"] := src_mk (PySem.W.mg_of X G a1) l1 c1 k1 fun _ _ _ _ _ _ us hl => match us, hl with | [_, _, _, _], _ => rfl
  have B2 : Src K mg "are_unlike" s_are_unlike ["machine", "one", "other", "ask"] := src_mk (PySem.W.mg_of X G a2) l2 c2 k2 fun _ _ _ _ _ _ us hl => match us, hl with | [_, _, _, _], _ => rfl
  have B3 : Src K mg "pairs_of" s_pairs_of ["machine"] := src_mk (PySem.W.mg_of X G a3) l3 c3 k3 fun _ _ _ _ _ _ us hl => match us, hl with | [_], _ => rfl
  have B4 : Src K mg "came_from" s_came_from ["machine"] := src_mk (PySem.W.mg_of X G a4) l4 c4 k4 fun _ _ _ _ _ _ us hl => match us, hl with | [_], _ => rfl
  have B5 : Src K mg "part_table" s_part_table ["machine"] := src_mk (PySem.W.mg_of X G a5) l5 c5 k5 fun _ _ _ _ _ _ us hl => match us, hl with | [_], _ => rfl
  have B6 : Src K mg "parting" s_parting ["machine", "one", "other"] := src_mk (PySem.W.mg_of X G a6) l6 c6 k6 fun _ _ _ _ _ _ us hl => match us, hl with | [_, _, _], _ => rfl
  have B7 : Src K mg "followers" s_followers ["machine", "rooms", "ask"] := src_mk (PySem.W.mg_of X G a7) l7 c7 k7 fun _ _ _ _ _ _ us hl => match us, hl with | [_, _, _], _ => rfl
  have B8 : Src K mg "first_try" s_first_try [] := src_mk (PySem.W.mg_of X G a8) l8 c8 k8 fun _ _ _ _ _ _ us hl => match us, hl with | [], _ => rfl
  have B9 : Src K mg "settled" s_settled ["machine", "lots", "ways"] := src_mk (PySem.W.mg_of X G a9) l9 c9 k9 fun _ _ _ _ _ _ us hl => match us, hl with | [_, _, _], _ => rfl
  have B10 : Src K mg "cut_of" s_cut_of ["table", "lots"] := src_mk (PySem.W.mg_of X G a10) l10 c10 k10 fun _ _ _ _ _ _ us hl => match us, hl with | [_, _], _ => rfl
  have B11 : Src K mg "is_gap" s_is_gap ["machine", "lots", "ways", "i", "ask"] := src_mk (PySem.W.mg_of X G a11) l11 c11 k11 fun _ _ _ _ _ _ us hl => match us, hl with | [_, _, _, _, _], _ => rfl
  have B12 : Src K mg "first_gap" s_first_gap ["machine", "lots", "ways"] := src_mk (PySem.W.mg_of X G a12) l12 c12 k12 fun _ _ _ _ _ _ us hl => match us, hl with | [_, _, _], _ => rfl
  have B13 : Src K mg "led_to" s_led_to ["machine", "lots", "ways", "gap", "m"] := src_mk (PySem.W.mg_of X G a13) l13 c13 k13 fun _ _ _ _ _ _ us hl => match us, hl with | [_, _, _, _, _], _ => rfl
  have B14 : Src K mg "gone_through" s_gone_through ["machine", "m", "most"] := src_mk (PySem.W.mg_of X G a14) l14 c14 k14 fun _ _ _ _ _ _ us hl => match us, hl with | [_, _, _], _ => rfl
  have B15 : Src K mg "tree_for" s_tree_for ["machine", "table", "m", "lots", "ways"] := src_mk (PySem.W.mg_of X G a15) l15 c15 k15 fun _ _ _ _ _ _ us hl => match us, hl with | [_, _, _, _, _], _ => rfl
  have B16 : Src K mg "told_paper" s_told_paper ["machine", "many"] := src_mk (PySem.W.mg_of X G a16) l16 c16 k16 fun _ _ _ _ _ _ us hl => match us, hl with | [_, _], _ => rfl
  have B17 : Src K mg "answer_of" s_answer_of ["machine", "lot", "ask"] := src_mk (PySem.W.mg_of X G a17) l17 c17 k17 fun _ _ _ _ _ _ us hl => match us, hl with | [_, _, _], _ => rfl
  have B18 : Src K mg "machine_of" s_machine_of ["machine", "lots", "ways"] := src_mk (PySem.W.mg_of X G a18) l18 c18 k18 fun _ _ _ _ _ _ us hl => match us, hl with | [_, _, _], _ => rfl
  have B19 : Src K mg "least" s_least ["machine"] := src_mk (PySem.W.mg_of X G a19) l19 c19 k19 fun _ _ _ _ _ _ us hl => match us, hl with | [_], _ => rfl
  have B20 : Src K mg "told_answers" s_told_answers ["sheet"] := src_mk (PySem.W.mg_of X G a20) l20 c20 k20 fun _ _ _ _ _ _ us hl => match us, hl with | [_], _ => rfl
  have B21 : Src K mg "beginnings" s_beginnings ["sheet"] := src_mk (PySem.W.mg_of X G a21) l21 c21 k21 fun _ _ _ _ _ _ us hl => match us, hl with | [_], _ => rfl
  have B22 : Src K mg "tree_of" s_tree_of ["asks", "sheet"] := src_mk (PySem.W.mg_of X G a22) l22 c22 k22 fun _ _ _ _ _ _ us hl => match us, hl with | [_, _], _ => rfl
  have B23 : Src K mg "least_of" s_least_of ["asks", "sheet"] := src_mk (PySem.W.mg_of X G a23) l23 c23 k23 fun _ _ _ _ _ _ us hl => match us, hl with | [_, _], _ => rfl
  have B24 : Src K mg "_law_pen" s__law_pen ["_law_script"] := src_mk (PySem.W.mg_of X G a24) l24 c24 k24 fun _ _ _ _ _ _ us hl => match us, hl with | [_], _ => rfl
  have B25 : Src K mg "_law_draw" s__law_draw ["_law_pen_here", "_law_many"] := src_mk (PySem.W.mg_of X G a25) l25 c25 k25 fun _ _ _ _ _ _ us hl => match us, hl with | [_, _], _ => rfl
  have B26 : Src K mg "_law_small" s__law_small ["_law_pen_here", "_law_asks", "_law_most"] := src_mk (PySem.W.mg_of X G a26) l26 c26 k26 fun _ _ _ _ _ _ us hl => match us, hl with | [_, _, _], _ => rfl
  have B27 : Src K mg "_law_begun" s__law_begun ["_law_sheet_here"] := src_mk (PySem.W.mg_of X G a27) l27 c27 k27 fun _ _ _ _ _ _ us hl => match us, hl with | [_], _ => rfl
  have B28 : Src K mg "_law_told_row" s__law_told_row ["_law_pen_here", "_law_rooms", "_law_row", "_law_share"] := src_mk (PySem.W.mg_of X G a28) l28 c28 k28 fun _ _ _ _ _ _ us hl => match us, hl with | [_, _, _, _], _ => rfl
  have B29 : Src K mg "_law_sheet" s__law_sheet ["_law_pen_here", "_law_rooms", "_law_many", "_law_most"] := src_mk (PySem.W.mg_of X G a29) l29 c29 k29 fun _ _ _ _ _ _ us hl => match us, hl with | [_, _, _, _], _ => rfl
  have B30 : Src K mg "_law_words" s__law_words ["_law_caught"] := src_mk (PySem.W.mg_of X G a30) l30 c30 k30 fun _ _ _ _ _ _ us hl => match us, hl with | [_], _ => rfl
  have B31 : Src K mg "_law_due" s__law_due ["_law_sheet_here"] := src_mk (PySem.W.mg_of X G a31) l31 c31 k31 fun _ _ _ _ _ _ us hl => match us, hl with | [_], _ => rfl
  have B32 : Src K mg "_law_heard" s__law_heard ["_law_which", "_law_asks", "_law_sheet_here"] := src_mk (PySem.W.mg_of X G a32) l32 c32 k32 fun _ _ _ _ _ _ us hl => match us, hl with | [_, _, _], _ => rfl
  have B33 : Src K mg "_law_bent" s__law_bent ["_law_sheet_here", "_law_spots", "_law_many"] := src_mk (PySem.W.mg_of X G a33) l33 c33 k33 fun _ _ _ _ _ _ us hl => match us, hl with | [_, _, _], _ => rfl
  have B34 : Src K mg "_law_made_right" s__law_made_right ["_law_one", "_law_other"] := src_mk (PySem.W.mg_of X G a34) l34 c34 k34 fun _ _ _ _ _ _ us hl => match us, hl with | [_, _], _ => rfl
  have B35 : Src K mg "law" s_law ["_law_script"] := src_mk (PySem.W.mg_of X G a35) l35 c35 k35 fun _ _ _ _ _ _ us hl => match us, hl with | [_], _ => rfl
  have e := hfa.symm.trans (PySem.W.mg_of X G a35)
  cases e
  refine ⟨PySem.W.fnOf "law" "law" (defArgs s_law) (defBody s_law) (defScope s_law) .none kV35 dc35 pm35 an35 cd35 ct35, fun s v => .of_eq rfl, fun base _ _ => ?_⟩
  have FL := fun_mk (st := s_law) l35 c35 k35
  exact ok_all T TC B0 B1 B2 B3 B4 B5 B6 B7 B8 B9 B10 B11 B12 B13 B14 B15 B16 B17 B18 B19 B20 B21 B22 B23 B24 B25 B26 B27 B28 B29 B30 B31 B32 B33 B34 FL
end L37
open PySem PySem.W PyProof.Rows
set_option maxRecDepth 100000 in
set_option maxHeartbeats 0 in
theorem PySem.Challenge.cw_opencells_k37_clashes_and_too_many_holds : PySem.Challenge.rw_opencells_k37_clashes_and_too_many.Holds := by
  w_on; o_law; k_head; (case hw => w_witness2)
  k_fill
  refine Oc.walk_ofG (l := PySem.Challenge.rw_opencells_k37_clashes_and_too_many) (k := 7) (x := "_law_script") rfl rfl ⟨rfl, by decide, by decide⟩ (fun w h Y => PySem.W.kIn_of Y) ?F
  case F =>
    intro w mg fa h KX G hmg
    refine' L37.all_mk KX G hmg ?a0 ?l0 ?c0 ?k0 ?a1 ?l1 ?c1 ?k1 ?a2 ?l2 ?c2 ?k2 ?a3 ?l3 ?c3 ?k3 ?a4 ?l4 ?c4 ?k4 ?a5 ?l5 ?c5 ?k5 ?a6 ?l6 ?c6 ?k6 ?a7 ?l7 ?c7 ?k7 ?a8 ?l8 ?c8 ?k8 ?a9 ?l9 ?c9 ?k9 ?a10 ?l10 ?c10 ?k10 ?a11 ?l11 ?c11 ?k11 ?a12 ?l12 ?c12 ?k12 ?a13 ?l13 ?c13 ?k13 ?a14 ?l14 ?c14 ?k14 ?a15 ?l15 ?c15 ?k15 ?a16 ?l16 ?c16 ?k16 ?a17 ?l17 ?c17 ?k17 ?a18 ?l18 ?c18 ?k18 ?a19 ?l19 ?c19 ?k19 ?a20 ?l20 ?c20 ?k20 ?a21 ?l21 ?c21 ?k21 ?a22 ?l22 ?c22 ?k22 ?a23 ?l23 ?c23 ?k23 ?a24 ?l24 ?c24 ?k24 ?a25 ?l25 ?c25 ?k25 ?a26 ?l26 ?c26 ?k26 ?a27 ?l27 ?c27 ?k27 ?a28 ?l28 ?c28 ?k28 ?a29 ?l29 ?c29 ?k29 ?a30 ?l30 ?c30 ?k30 ?a31 ?l31 ?c31 ?k31 ?a32 ?l32 ?c32 ?k32 ?a33 ?l33 ?c33 ?k33 ?a34 ?l34 ?c34 ?k34 ?a35 ?l35 ?c35 ?k35 ?z_ValueError ?z_len ?z_tuple ?z_list ?z_enumerate ?z_range ?z_isinstance ?z_any ?z_sorted ?z_min ?z_dict ?z_repr ?z_set ?z_int ?z_abs ?z_bool ?zc_MOST_TRIES ?zc_MOST_ROOMS ?y_g_CellError ?y_g_Clash ?y_g_TooMany ?y_g_NotClosed ?y_g_Unlike ?y_g_NotFull ?y_g_Unreached ?y_g_NoWords ?y_g_NotOpen ?y_g_NoBack ?y_g_NoText ?y_g_NoName ?y_g_NoLine ?y_c_CellError ?y_ty_CellError ?y_c_Clash ?y_ty_Clash ?y_c_TooMany ?y_ty_TooMany ?y_c_NotClosed ?y_ty_NotClosed ?y_c_Unlike ?y_ty_Unlike ?y_c_NotFull ?y_ty_NotFull ?y_c_Unreached ?y_ty_Unreached ?y_c_NoWords ?y_ty_NoWords ?y_c_NotOpen ?y_ty_NotOpen ?y_c_NoBack ?y_ty_NoBack ?y_c_NoText ?y_ty_NoText ?y_c_NoName ?y_ty_NoName ?y_c_NoLine ?y_ty_NoLine ?y_sb_CellError ?y_z_TooMany ?y_zv_TooMany ?y_zi_TooMany_CellError ?y_zi_TooMany_Clash ?y_zi_TooMany_TooMany ?y_zi_TooMany_NotClosed ?y_zi_TooMany_Unlike ?y_zi_TooMany_NotFull ?y_zi_TooMany_Unreached ?y_zi_TooMany_NoWords ?y_zi_TooMany_NotOpen ?y_zi_TooMany_NoBack ?y_zi_TooMany_NoText ?y_zi_TooMany_NoName ?y_zi_TooMany_NoLine ?y_z_Clash ?y_zv_Clash ?y_zi_Clash_CellError ?y_zi_Clash_Clash ?y_zi_Clash_TooMany ?y_zi_Clash_NotClosed ?y_zi_Clash_Unlike ?y_zi_Clash_NotFull ?y_zi_Clash_Unreached ?y_zi_Clash_NoWords ?y_zi_Clash_NotOpen ?y_zi_Clash_NoBack ?y_zi_Clash_NoText ?y_zi_Clash_NoName ?y_zi_Clash_NoLine ?y_oc_Clash ?y_ov_Clash ?y_os_Clash ?y_oi_Clash ?y_ot_Clash ?y_ol_Clash ?y_oj_Clash ?y_ok_Clash ?y_vs_CellError ?y_vr_CellError ?y_vv_CellError ?y_k_TooMany ?y_s_TooMany ?y_t_TooMany ?y_x_TooMany ?y_ea_TooMany ?y_eb_TooMany ?y_ec_TooMany ?y_ed_TooMany ?y_ee_TooMany ?y_k_Clash ?y_s_Clash ?y_t_Clash ?y_ea_Clash ?y_eb_Clash ?y_ec_Clash ?y_ed_Clash ?y_ee_Clash ?y_of_Clash_row ?y_of_Clash_place ?y_en ?y_et
    (case a0 => k_is); (case l0 => k_is); (case c0 => k_is); (case k0 => k_is); (case a1 => k_is); (case l1 => k_is); (case c1 => k_is); (case k1 => k_is); (case a2 => k_is); (case l2 => k_is); (case c2 => k_is); (case k2 => k_is); (case a3 => k_is); (case l3 => k_is); (case c3 => k_is); (case k3 => k_is); (case a4 => k_is); (case l4 => k_is); (case c4 => k_is); (case k4 => k_is); (case a5 => k_is); (case l5 => k_is); (case c5 => k_is); (case k5 => k_is); (case a6 => k_is); (case l6 => k_is); (case c6 => k_is); (case k6 => k_is); (case a7 => k_is); (case l7 => k_is); (case c7 => k_is); (case k7 => k_is); (case a8 => k_is); (case l8 => k_is); (case c8 => k_is); (case k8 => k_is); (case a9 => k_is); (case l9 => k_is); (case c9 => k_is); (case k9 => k_is); (case a10 => k_is); (case l10 => k_is); (case c10 => k_is); (case k10 => k_is); (case a11 => k_is); (case l11 => k_is); (case c11 => k_is); (case k11 => k_is); (case a12 => k_is); (case l12 => k_is); (case c12 => k_is); (case k12 => k_is); (case a13 => k_is); (case l13 => k_is); (case c13 => k_is); (case k13 => k_is); (case a14 => k_is); (case l14 => k_is); (case c14 => k_is); (case k14 => k_is); (case a15 => k_is); (case l15 => k_is); (case c15 => k_is); (case k15 => k_is); (case a16 => k_is); (case l16 => k_is); (case c16 => k_is); (case k16 => k_is); (case a17 => k_is); (case l17 => k_is); (case c17 => k_is); (case k17 => k_is); (case a18 => k_is); (case l18 => k_is); (case c18 => k_is); (case k18 => k_is); (case a19 => k_is); (case l19 => k_is); (case c19 => k_is); (case k19 => k_is); (case a20 => k_is); (case l20 => k_is); (case c20 => k_is); (case k20 => k_is); (case a21 => k_is); (case l21 => k_is); (case c21 => k_is); (case k21 => k_is); (case a22 => k_is); (case l22 => k_is); (case c22 => k_is); (case k22 => k_is); (case a23 => k_is); (case l23 => k_is); (case c23 => k_is); (case k23 => k_is); (case a24 => k_is); (case l24 => k_is); (case c24 => k_is); (case k24 => k_is); (case a25 => k_is); (case l25 => k_is); (case c25 => k_is); (case k25 => k_is); (case a26 => k_is); (case l26 => k_is); (case c26 => k_is); (case k26 => k_is); (case a27 => k_is); (case l27 => k_is); (case c27 => k_is); (case k27 => k_is); (case a28 => k_is); (case l28 => k_is); (case c28 => k_is); (case k28 => k_is); (case a29 => k_is); (case l29 => k_is); (case c29 => k_is); (case k29 => k_is); (case a30 => k_is); (case l30 => k_is); (case c30 => k_is); (case k30 => k_is); (case a31 => k_is); (case l31 => k_is); (case c31 => k_is); (case k31 => k_is); (case a32 => k_is); (case l32 => k_is); (case c32 => k_is); (case k32 => k_is); (case a33 => k_is); (case l33 => k_is); (case c33 => k_is); (case k33 => k_is); (case a34 => k_is); (case l34 => k_is); (case c34 => k_is); (case k34 => k_is); (case a35 => k_is); (case l35 => k_is); (case c35 => k_is); (case k35 => k_is); (case z_ValueError => k_is); (case z_len => k_is); (case z_tuple => k_is); (case z_list => k_is); (case z_enumerate => k_is); (case z_range => k_is); (case z_isinstance => k_is); (case z_any => k_is); (case z_sorted => k_is); (case z_min => k_is); (case z_dict => k_is); (case z_repr => k_is); (case z_set => k_is); (case z_int => k_is); (case z_abs => k_is); (case z_bool => k_is); (case zc_MOST_TRIES => k_is); (case zc_MOST_ROOMS => k_is); (case y_g_CellError => k_is); (case y_g_Clash => k_is); (case y_g_TooMany => k_is); (case y_g_NotClosed => k_is); (case y_g_Unlike => k_is); (case y_g_NotFull => k_is); (case y_g_Unreached => k_is); (case y_g_NoWords => k_is); (case y_g_NotOpen => k_is); (case y_g_NoBack => k_is); (case y_g_NoText => k_is); (case y_g_NoName => k_is); (case y_g_NoLine => k_is); (case y_c_CellError => k_is); (case y_ty_CellError => k_is); (case y_c_Clash => k_is); (case y_ty_Clash => k_is); (case y_c_TooMany => k_is); (case y_ty_TooMany => k_is); (case y_c_NotClosed => k_is); (case y_ty_NotClosed => k_is); (case y_c_Unlike => k_is); (case y_ty_Unlike => k_is); (case y_c_NotFull => k_is); (case y_ty_NotFull => k_is); (case y_c_Unreached => k_is); (case y_ty_Unreached => k_is); (case y_c_NoWords => k_is); (case y_ty_NoWords => k_is); (case y_c_NotOpen => k_is); (case y_ty_NotOpen => k_is); (case y_c_NoBack => k_is); (case y_ty_NoBack => k_is); (case y_c_NoText => k_is); (case y_ty_NoText => k_is); (case y_c_NoName => k_is); (case y_ty_NoName => k_is); (case y_c_NoLine => k_is); (case y_ty_NoLine => k_is); (case y_sb_CellError => k_is); (case y_z_TooMany => k_is); (case y_zv_TooMany => k_is); (case y_zi_TooMany_CellError => k_is); (case y_zi_TooMany_Clash => k_is); (case y_zi_TooMany_TooMany => k_is); (case y_zi_TooMany_NotClosed => k_is); (case y_zi_TooMany_Unlike => k_is); (case y_zi_TooMany_NotFull => k_is); (case y_zi_TooMany_Unreached => k_is); (case y_zi_TooMany_NoWords => k_is); (case y_zi_TooMany_NotOpen => k_is); (case y_zi_TooMany_NoBack => k_is); (case y_zi_TooMany_NoText => k_is); (case y_zi_TooMany_NoName => k_is); (case y_zi_TooMany_NoLine => k_is); (case y_z_Clash => k_is); (case y_zv_Clash => k_is); (case y_zi_Clash_CellError => k_is); (case y_zi_Clash_Clash => k_is); (case y_zi_Clash_TooMany => k_is); (case y_zi_Clash_NotClosed => k_is); (case y_zi_Clash_Unlike => k_is); (case y_zi_Clash_NotFull => k_is); (case y_zi_Clash_Unreached => k_is); (case y_zi_Clash_NoWords => k_is); (case y_zi_Clash_NotOpen => k_is); (case y_zi_Clash_NoBack => k_is); (case y_zi_Clash_NoText => k_is); (case y_zi_Clash_NoName => k_is); (case y_zi_Clash_NoLine => k_is); (case y_oc_Clash => k_is); (case y_ov_Clash => first | rfl | decide +kernel); (case y_os_Clash => k_is); (case y_oi_Clash => k_is); (case y_ot_Clash => k_is); (case y_ol_Clash => k_is); (case y_oj_Clash => k_is); (case y_ok_Clash => k_is); (case y_vs_CellError => k_is); (case y_vr_CellError => k_is); (case y_vv_CellError => k_is); (case y_k_TooMany => k_is); (case y_s_TooMany => k_is); (case y_t_TooMany => k_is); (case y_x_TooMany => k_exc); (case y_ea_TooMany => k_is); (case y_eb_TooMany => k_is); (case y_ec_TooMany => k_is); (case y_ed_TooMany => k_is); (case y_ee_TooMany => k_is); (case y_k_Clash => k_is); (case y_s_Clash => k_is); (case y_t_Clash => k_is); (case y_ea_Clash => k_is); (case y_eb_Clash => k_is); (case y_ec_Clash => k_is); (case y_ed_Clash => k_is); (case y_ee_Clash => k_is); (case y_of_Clash_row => k_is); (case y_of_Clash_place => k_is); (case y_en => k_is); (case y_et => k_is)
