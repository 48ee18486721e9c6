import PyProof.Rows.All
import Wide.All
import OpenK.AllK
import Wide.FinOn
import KE.KExcLine
import HandS.ForMost
import HandS.Evl
import HandS.Lambda
import KE.GoesNew
import HandS.IsInst
import HandS.TupAny
import HandS.Wide
import HandS.Ends
import PyProof.Rows.ReprR
import HandS.Text
import HandS.SortInts
import HandS.TupMul
import PyProof.ReprBulk
import PyProof.Rows.ReprShort
import HandS.TupLe
import PyProof.P3Eq
import HandS.Rev
import KE.GoesMore
import HandS.Conv
import HandS.More
import PyProof.StrOps2
import KE.KDictDisplayH
import PyProof.DictMoreH
import HandS.SortRule
import HandS.Iter
import HandS.TryOnly
import KE.KDictKeyed
import KE.DataMinMax
import HandS.Zip
import HandS.Deep
import HandS.TupLen
import KE.DataCmp
import HandS.SetFor
import HandS.Strs
import HandS.Style
import HandS.SortOrd
import KE.SortData
import KE.BitLaws
import HandS.Exc
import HandS.ExcOwn
import HandS.ExcIs
import HandS.WordsExc
import KE.KIndexOf
import KE.DataFind
import HandS.EndTab
import KE.GoesRaise
import PySem.Challenge.RW_opencells_k16_faults_of_pairs
set_option Elab.async false
set_option autoImplicit false
set_option linter.all false
set_option maxRecDepth 100000
set_option maxHeartbeats 4000000
/-! Own layer, part 1: data as values (D), mutable cells (Mu), and a calculus of weakest preconditions over HandS. -/
namespace Oc
open PySem PySem.Spec L2
open Evl (Ex)

inductive D where
  | non | bl (b : Bool) | int (i : Int) | str (x : Str) | tup (l : List D) | tpl (l : List D) | lst (l : List D) | scr (l : List D) | ptr (a : Addr) | ty (n : String) | dct (ks : List (List Key)) (vs : List D)
/-- the content of a mutable cell -/
inductive MO where
  | lst (l : List D) | dk (l : List (Key × D)) | dt (l : List (List Key × D)) | la (P : List D → Prop) | ka (P : List (Key × D) → Prop) | exc (C : Addr) (ks : List Str) (vs : List D) | tab (q : Str)
/-- the written part, and the ground: what stands still since the def began -/
structure KF where
  k : PySem.W.Frag
  g : Hp
instance : Coe KF PySem.W.Frag := ⟨KF.k⟩
/-- a context with its ground -/
structure Cy where
  c : Cx
  g : Hp
instance : Coe Cy Cx := ⟨Cy.c⟩
namespace Cy
abbrev K (X : Cy) : KF := ⟨X.c.K, X.g⟩
abbrev prog (X : Cy) := X.c.prog
abbrev w (X : Cy) := X.c.w
abbrev mg (X : Cy) := X.c.mg
abbrev base (X : Cy) := X.c.base
abbrev A (X : Cy) := X.c.A
abbrev N (X : Cy) := X.c.N
abbrev s_0 (X : Cy) := X.c.s_0
abbrev H_0 (X : Cy) := X.c.H_0
abbrev env (X : Cy) := X.c.env
abbrev outer (X : Cy) := X.c.outer
abbrev stack (X : Cy) := X.c.stack
abbrev ex (X : Cy) := X.c.ex
abbrev fn (X : Cy) := X.c.fn
abbrev calm (X : Cy) := X.c.calm
abbrev pn (X : Cy) := X.c.pn
abbrev xe (X : Cy) := X.c.xe
abbrev fs (X : Cy) := X.c.fs
end Cy
abbrev Rho := List (Option D)
abbrev Mu := List (Addr × MO)

mutual
inductive Rep (K : PySem.W.Frag) (F : Hp) : V → D → Prop
  | non : Rep K F .non .non
  | bl (b : Bool) : Rep K F (.bl b) (.bl b)
  | int (i : Int) : Rep K F (.int i) (.int i)
  | str (x : Str) : Rep K F (.str x) (.str x)
  | tup {a : Addr} {xs : List V} {ds : List D} : F a = some (.tup xs) → Reps K F xs ds → Rep K F (.ref a) (.tup ds)
  | tpl {a : Addr} {o : Obj} {xs : List V} {ds : List D} : F a = some (.frz o (.tup xs)) → o.cls = .type "tuple" → o.dict = none → Reps K F xs ds → Rep K F (.ref a) (.tpl ds)
  | lst {a : Addr} {xs : List V} {ds : List D} : F a = some (.lst xs) → Reps K F xs ds → Rep K F (.ref a) (.lst ds)
  | scr {a : Addr} {xs : List V} {ds : List D} : SqL K F a xs → Reps K F xs ds → Rep K F (.ref a) (.scr ds)
  | ty (n : String) : Rep K F (.ty n) (.ty n)
  | ptr (a : Addr) : Rep K F (.ref a) (.ptr a)
  | dct {a : Addr} {o : Obj} {kvs : List (List Key × V)} {ks : List (List Key)} {vs : List D} : F a = some (.frz o (.dT kvs)) → kvs.map (·.1) = ks → Reps K F (kvs.map (·.2)) vs → Rep K F (.ref a) (.dct ks vs)
inductive Reps (K : PySem.W.Frag) (F : Hp) : List V → List D → Prop
  | nil : Reps K F [] []
  | cons {v : V} {vs : List V} {d : D} {ds : List D} : Rep K F v d → Reps K F vs ds → Reps K F (v :: vs) (d :: ds)
end
section
variable {K : PySem.W.Frag} {F F' H H' : Hp}
mutual
theorem Rep.mono (e : Ex F F') : ∀ {v : V} {d : D}, Rep K F v d → Rep K F' v d
  | _, _, .non => .non
  | _, _, .bl b => .bl b
  | _, _, .int i => .int i
  | _, _, .str x => .str x
  | _, _, .tup h r => .tup (e _ _ h) (Reps.mono e r)
  | _, _, .tpl h c n r => .tpl (e _ _ h) c n (Reps.mono e r)
  | _, _, .lst h r => .lst (e _ _ h) (Reps.mono e r)
  | _, _, .scr h r => .scr (Evl.ex_l e h) (Reps.mono e r)
  | _, _, .ty n => .ty n
  | _, _, .ptr a => .ptr a
  | _, _, .dct h e2 r => .dct (e _ _ h) e2 (Reps.mono e r)
theorem Reps.mono (e : Ex F F') : ∀ {v : List V} {d : List D}, Reps K F v d → Reps K F' v d
  | _, _, .nil => .nil
  | _, _, .cons h r => .cons (Rep.mono e h) (Reps.mono e r)
end
theorem Reps.length : ∀ {v : List V} {d : List D}, Reps K F v d → v.length = d.length
  | _, _, .nil => rfl
  | _, _, .cons _ r => congrArg (· + 1) (Reps.length r)
theorem Reps.get : ∀ {v : List V} {d : List D} {i : Nat} {x : D}, Reps K F v d → d[i]? = some x → ∃ y, v[i]? = some y ∧ Rep K F y x
  | _, _, _, _, .nil, h => by simp at h
  | _, _, 0, _, .cons h _, e => by simp at e; subst e; exact ⟨_, rfl, h⟩
  | _, _, i + 1, x, .cons _ r, e => by
    obtain ⟨y, h1, h2⟩ := Reps.get (i := i) (x := x) r (by simpa using e)
    exact ⟨y, by simpa using h1, h2⟩
theorem Reps.getV : ∀ {v : List V} {d : List D} {i : Nat} {y : V}, Reps K F v d → v[i]? = some y → ∃ x, d[i]? = some x ∧ Rep K F y x
  | _, _, _, _, .nil, h => by simp at h
  | _, _, 0, _, .cons h _, e => by simp at e; subst e; exact ⟨_, rfl, h⟩
  | _, _, i + 1, x, .cons _ r, e => by
    obtain ⟨y, h1, h2⟩ := Reps.getV (i := i) (y := x) r (by simpa using e)
    exact ⟨y, by simpa using h1, h2⟩
theorem Reps.append : ∀ {v w : List V} {d e : List D}, Reps K F v d → Reps K F w e → Reps K F (v ++ w) (d ++ e)
  | _, _, _, _, .nil, s => s
  | _, _, _, _, .cons r t, s => .cons r (Reps.append t s)
theorem Reps.one {v : V} {d : D} (h : Rep K F v d) : Reps K F [v] [d] := .cons h .nil
theorem Reps.take : ∀ {v : List V} {d : List D} (n : Nat), Reps K F v d → Reps K F (v.take n) (d.take n)
  | _, _, 0, _ => .nil
  | _, _, _ + 1, .nil => .nil
  | _, _, n + 1, .cons r t => .cons r (Reps.take n t)
theorem Reps.drop : ∀ {v : List V} {d : List D} (n : Nat), Reps K F v d → Reps K F (v.drop n) (d.drop n)
  | _, _, 0, r => r
  | _, _, _ + 1, .nil => .nil
  | _, _, n + 1, .cons _ t => Reps.drop n t
theorem Reps.set {x : V} {u : D} (r : Rep K F x u) : ∀ {xs : List V} {us : List D} (i : Nat), Reps K F xs us → Reps K F (xs.set i x) (us.set i u)
  | _, _, _, .nil => .nil
  | _, _, 0, .cons _ t => .cons r t
  | _, _, i + 1, .cons q t => .cons q (Reps.set r i t)
theorem Reps.reverse {v : List V} {d : List D} (h : Reps K F v d) : Reps K F v.reverse d.reverse := by
  induction d generalizing v with
  | nil => cases h; exact .nil
  | cons a l ih => cases h with | cons h r => rw [List.reverse_cons, List.reverse_cons]; exact (ih r).append (.one h)
theorem reps_map {α : Type} {f : α → V} {g : α → D} (h : ∀ a, Rep K F (f a) (g a)) : ∀ l : List α, Reps K F (l.map f) (l.map g)
  | [] => .nil
  | a :: l => .cons (h a) (reps_map h l)
/-- what a list of known kind is -/
theorem reps_ints : ∀ {vs : List V} {ns : List Int}, Reps K F vs (ns.map D.int) → vs = ns.map V.int
  | _, [], .nil => rfl
  | _, n :: ns, .cons h r => by
    cases h
    rw [List.map_cons, ← reps_ints r]
theorem reps_strs : ∀ {vs : List V} {ns : List Str}, Reps K F vs (ns.map D.str) → vs = ns.map V.str
  | _, [], .nil => rfl
  | _, n :: ns, .cons h r => by
    cases h
    rw [List.map_cons, ← reps_strs r]
theorem reps_bools : ∀ {vs : List V} {ns : List Bool}, Reps K F vs (ns.map D.bl) → vs = ns.map V.bl
  | _, [], .nil => rfl
  | _, n :: ns, .cons h r => by
    cases h
    rw [List.map_cons, ← reps_bools r]

def RepK {κ : Type} (K : PySem.W.Frag) (F : Hp) : List (κ × D) → List (κ × V) → Prop := Paired fun p q => p.1 = q.1 ∧ Rep K F q.2 p.2
theorem RepK.mono {κ : Type} (e : Ex F F') {ds : List (κ × D)} {kvs : List (κ × V)} (h : RepK K F ds kvs) : RepK K F' ds kvs := Paired.mapP h fun _ _ z => ⟨z.1, z.2.mono e⟩
/-- a table of code objects: each of them bears the name q -/
def TabP (F : Hp) (q : Str) (ps : Array Value) : Prop := TriplesOk ps.toList ∧ ∀ (p : Pos) (u : Value), codeAmong p ps.toList = some u → ∃ c, u = .ref c ∧ F c = some (LamX.CodeO c q)
theorem TabP.mono {F F' : Hp} (e : Ex F F') {q : Str} {ps : Array Value} (h : TabP F q ps) : TabP F' q ps := ⟨h.1, fun p u hu => by
  obtain ⟨c, h1, h2⟩ := h.2 p u hu
  exact ⟨c, h1, e _ _ h2⟩⟩
inductive RepO (K : PySem.W.Frag) (F : Hp) : MO → HO → Prop
  | tab {q : Str} {ps : Array Value} : TabP F q ps → RepO K F (.tab q) (.tbl ps)
  | lst {ds : List D} {xs : List V} : Reps K F xs ds → RepO K F (.lst ds) (.lst xs)
  | dk {ds : List (Key × D)} {kvs : List (Key × V)} : RepK K F ds kvs → RepO K F (.dk ds) (.dK kvs)
  | dt {ds : List (List Key × D)} {kvs : List (List Key × V)} : RepK K F ds kvs → RepO K F (.dt ds) (.dT kvs)
  | la {P : List D → Prop} {ds : List D} {xs : List V} : P ds → Reps K F xs ds → RepO K F (.la P) (.lst xs)
  | ka {P : List (Key × D) → Prop} {ds : List (Key × D)} {kvs : List (Key × V)} : P ds → RepK K F ds kvs → RepO K F (.ka P) (.dK kvs)
  | exc {C : Addr} {o : Obj} {u : HO} {fs : Array Value} : o.cls = .ref C → o.dict = none → o.data = .fields fs → RepO K F (.exc C [] []) (.frz o u)
  | excF {C d : Addr} {o : Obj} {u : HO} {fs : Array Value} {kvs : List (Str × V)} {ks : List Str} {vs : List D} : o.cls = .ref C → o.dict = some d → o.data = .fields fs → F d = some (.xd kvs) → kvs.map (·.1) = ks → Reps K F (kvs.map (·.2)) vs → ks ≠ [] → RepO K F (.exc C ks vs) (.frz o u)
theorem RepO.mono (e : Ex F F') {o : MO} {u : HO} (h : RepO K F o u) : RepO K F' o u := by
  cases h with
  | tab t => exact .tab (t.mono e)
  | lst r => exact .lst (r.mono e)
  | dk r => exact .dk (r.mono e)
  | dt r => exact .dt (r.mono e)
  | la p r => exact .la p (r.mono e)
  | ka p r => exact .ka p (r.mono e)
  | exc h1 h2 h3 => exact .exc h1 h2 h3
  | excF h1 h2 h3 h4 e2 r ne => exact .excF h1 h2 h3 (e _ _ h4) e2 (r.mono e) ne

/-- the heap H: F stands still, the cells of μ may change -/
structure Hs (K : KF) (F : Hp) (μ : Mu) (H : Hp) : Prop where
  ex : Ex F H
  nd : (μ.map (·.1)).Nodup
  mu : ∀ a o, (a, o) ∈ μ → F a = none ∧ ∃ u, H a = some u ∧ RepO K F o u
  gr : Ex K.g F
/-- the slots -/
structure Sl (K : PySem.W.Frag) (F : Hp) (ρ : Rho) (σ : St) : Prop where
  len : ρ.length = σ.length
  at_ : ∀ (i : Nat) (d : D), ρ[i]? = some (some d) → ∃ v, σ[i]? = some (some v) ∧ Rep K F v d
variable {μ : Mu} {ρ : Rho} {σ : St}
theorem Sl.mono (e : Ex F F') (s : Sl K F ρ σ) : Sl K F' ρ σ := ⟨s.len, fun i d h => by
  obtain ⟨v, h1, h2⟩ := s.at_ i d h
  exact ⟨v, h1, h2.mono e⟩⟩
theorem Sl.set {v : V} {d : D} (s : Sl K F ρ σ) (i : Nat) (r : Rep K F v d) : Sl K F (ρ.set i (some d)) (σ.set i (some v)) := ⟨by rw [List.length_set, List.length_set]; exact s.len, fun j e h => by
  by_cases hj : i = j
  · subst hj
    by_cases hl : i < ρ.length
    · rw [List.getElem?_set_self hl] at h
      rw [List.getElem?_set_self (by rw [← s.len]; exact hl)]
      cases h
      exact ⟨v, rfl, r⟩
    · rw [List.getElem?_eq_none (by rw [List.length_set]; omega)] at h
      cases h
  · rw [List.getElem?_set_ne hj] at h ⊢
    exact s.at_ j e h⟩
theorem Sl.wipe (s : Sl K F ρ σ) (i : Nat) : Sl K F (ρ.set i none) (σ.set i none) := ⟨by rw [List.length_set, List.length_set]; exact s.len, fun j e h => by
  by_cases hj : i = j
  · subst hj
    by_cases hl : i < ρ.length
    · rw [List.getElem?_set_self hl] at h
      cases h
    · rw [List.getElem?_eq_none (by rw [List.length_set]; omega)] at h
      cases h
  · rw [List.getElem?_set_ne hj] at h ⊢
    exact s.at_ j e h⟩
theorem Sl.forget (s : Sl K F ρ σ) (i : Nat) : Sl K F (ρ.set i none) σ := ⟨by rw [List.length_set]; exact s.len, fun j e h => by
  by_cases hj : i = j
  · subst hj
    by_cases hl : i < ρ.length
    · rw [List.getElem?_set_self hl] at h
      cases h
    · rw [List.getElem?_eq_none (by rw [List.length_set]; omega)] at h
      cases h
  · rw [List.getElem?_set_ne hj] at h
    exact s.at_ j e h⟩
end
section
variable {K : KF} {F F' H H' : Hp} {μ : Mu} {ρ : Rho} {σ : St}
theorem mem_of_get {α : Type} {l : List α} {i : Nat} {x : α} (h : l[i]? = some x) : x ∈ l := List.mem_of_getElem? h
theorem Hs.at_ (h : Hs K F μ H) {i : Nat} {p : Addr} {o : MO} (e : μ[i]? = some (p, o)) : F p = none ∧ ∃ u, H p = some u ∧ RepO K F o u := h.mu p o (mem_of_get e)
theorem Hs.lst (h : Hs K F μ H) {i : Nat} {p : Addr} {ds : List D} (e : μ[i]? = some (p, .lst ds)) : ∃ xs, H p = some (.lst xs) ∧ Reps K F xs ds := by
  obtain ⟨_, u, h1, h2⟩ := h.at_ e
  cases h2 with
  | lst r => exact ⟨_, h1, r⟩
theorem Hs.dk (h : Hs K F μ H) {i : Nat} {p : Addr} {ds : List (Key × D)} (e : μ[i]? = some (p, .dk ds)) : ∃ kvs, H p = some (.dK kvs) ∧ RepK K F ds kvs := by
  obtain ⟨_, u, h1, h2⟩ := h.at_ e
  cases h2 with
  | dk r => exact ⟨_, h1, r⟩
theorem Hs.dt (h : Hs K F μ H) {i : Nat} {p : Addr} {ds : List (List Key × D)} (e : μ[i]? = some (p, .dt ds)) : ∃ kvs, H p = some (.dT kvs) ∧ RepK K F ds kvs := by
  obtain ⟨_, u, h1, h2⟩ := h.at_ e
  cases h2 with
  | dt r => exact ⟨_, h1, r⟩
/-- the still part grows where H has it -/
theorem Hs.still (h : Hs K F μ H) {p : Addr} {u : HO} (hp : F p = none) (hu : H p = some u) (hm : ∀ o, (p, o) ∉ μ) : Hs K (upd F p u) μ H ∧ Ex F (upd F p u) := by
  have e : Ex F (upd F p u) := Ex.new hp
  refine ⟨⟨fun a o q => ?_, h.nd, fun a o q => ?_, h.gr.trans e⟩, e⟩
  · by_cases ha : a = p
    · subst ha; rw [upd_same] at q; cases q; exact hu
    · rw [upd_ne ha] at q; exact h.ex a o q
  · obtain ⟨h1, w, h2, h3⟩ := h.mu a o q
    have ha : a ≠ p := fun z => by subst z; exact hm o q
    exact ⟨by rw [upd_ne ha]; exact h1, w, h2, h3.mono e⟩
theorem Hs.fresh (h : Hs K F μ H) {p : Addr} (hp : H p = none) : F p = none ∧ ∀ o, (p, o) ∉ μ := ⟨Evl.fresh_back h.ex hp, fun o q => by
  obtain ⟨_, w, h2, _⟩ := h.mu p o q
  rw [hp] at h2; cases h2⟩
/-- a new object that stands still -/
theorem Hs.laid (h : Hs K F μ H) {p : Addr} {u : HO} (hp : H p = none) : Hs K (upd F p u) μ (upd H p u) ∧ Ex F (upd F p u) := by
  obtain ⟨h1, h2⟩ := h.fresh hp
  have e : Ex F (upd F p u) := Ex.new h1
  refine ⟨⟨fun a o q => ?_, h.nd, fun a o q => ?_, h.gr.trans e⟩, e⟩
  · by_cases ha : a = p
    · subst ha; rw [upd_same] at q ⊢; exact q
    · rw [upd_ne ha] at q ⊢; exact h.ex a o q
  · obtain ⟨h3, w, h4, h5⟩ := h.mu a o q
    have ha : a ≠ p := fun z => by subst z; exact h2 o q
    exact ⟨by rw [upd_ne ha]; exact h3, w, by rw [upd_ne ha]; exact h4, h5.mono e⟩
/-- a new cell -/
theorem Hs.cell (h : Hs K F μ H) {p : Addr} {u : HO} {o : MO} (hp : H p = none) (r : RepO K F o u) : Hs K F ((p, o) :: μ) (upd H p u) := by
  obtain ⟨h1, h2⟩ := h.fresh hp
  refine ⟨h.ex.trans (Ex.new hp), ?_, fun a q z => ?_, h.gr⟩
  · rw [List.map_cons, List.nodup_cons]
    refine ⟨fun z => ?_, h.nd⟩
    obtain ⟨⟨a, q⟩, hm, e⟩ := List.mem_map.mp z
    subst e
    exact h2 q hm
  · rcases List.mem_cons.mp z with e | e
    · cases e
      exact ⟨h1, u, upd_same, r⟩
    · obtain ⟨h3, w, h4, h5⟩ := h.mu a q e
      have ha : a ≠ p := fun z => by subst z; exact h2 q e
      exact ⟨h3, w, by rw [upd_ne ha]; exact h4, h5⟩
theorem nodup_get {μ : Mu} (nd : (μ.map (·.1)).Nodup) {i j : Nat} {p : Addr} {o u : MO} (h1 : μ[i]? = some (p, o)) (h2 : μ[j]? = some (p, u)) : i = j := by
  have e1 : (μ.map (·.1))[i]? = some p := by rw [List.getElem?_map, h1]; rfl
  have e2 : (μ.map (·.1))[j]? = some p := by rw [List.getElem?_map, h2]; rfl
  obtain ⟨l1, g1⟩ := List.getElem?_eq_some_iff.mp e1
  obtain ⟨l2, g2⟩ := List.getElem?_eq_some_iff.mp e2
  exact (List.getElem_inj nd).mp (g1.trans g2.symm)
theorem map_set_fst {μ : Mu} {i : Nat} {p : Addr} {o u : MO} (h : μ[i]? = some (p, o)) : ((μ.set i (p, u)).map (·.1)) = μ.map (·.1) := by
  rw [List.map_set]
  apply List.ext_getElem?
  intro j
  by_cases hj : i = j
  · subst hj
    have hl : i < (μ.map (·.1)).length := by rw [List.length_map]; exact (List.getElem?_eq_some_iff.mp h).1
    rw [List.getElem?_set_self hl, List.getElem?_map, h]
    rfl
  · rw [List.getElem?_set_ne hj]
/-- a cell is written -/
theorem Hs.write (h : Hs K F μ H) {i : Nat} {p : Addr} {u : HO} {o o' : MO} (e : μ[i]? = some (p, o)) (r : RepO K F o' u) : Hs K F (μ.set i (p, o')) (upd H p u) := by
  obtain ⟨h1, _, h2, _⟩ := h.at_ e
  have hl : i < μ.length := (List.getElem?_eq_some_iff.mp e).1
  refine ⟨fun a q z => ?_, by rw [map_set_fst e]; exact h.nd, fun a q z => ?_, h.gr⟩
  · have ha : a ≠ p := ne_of_none z h1
    rw [upd_ne ha]; exact h.ex a q z
  · obtain ⟨j, hj, ej⟩ := List.mem_iff_getElem.mp z
    by_cases hij : i = j
    · subst hij
      rw [List.getElem_set_self] at ej
      cases ej
      exact ⟨h1, u, upd_same, r⟩
    · rw [List.getElem_set_ne hij] at ej
      have hj' : j < μ.length := by rw [List.length_set] at hj; exact hj
      have ej' : μ[j]? = some (a, q) := by rw [List.getElem?_eq_getElem hj', ej]
      obtain ⟨h3, w, h4, h5⟩ := h.mu a q (mem_of_get ej')
      have ha : a ≠ p := fun z => by
        subst z
        exact hij (nodup_get h.nd e ej')
      exact ⟨h3, w, by rw [upd_ne ha]; exact h4, h5⟩
/-- cells forgotten -/
theorem Hs.sub {μ' : Mu} (h : Hs K F μ H) (s : μ'.Sublist μ) : Hs K F μ' H := ⟨h.ex, h.nd.sublist (s.map _), fun a o q => h.mu a o (s.subset q), h.gr⟩
/-- a list's cell stands still from now on -/
theorem Hs.freeze (h : Hs K F μ H) {i : Nat} {p : Addr} {ds : List D} (e : μ[i]? = some (p, .lst ds)) : ∃ F', Ex F F' ∧ Hs K F' (μ.eraseIdx i) H ∧ Rep K F' (.ref p) (.lst ds) := by
  obtain ⟨h1, _⟩ := h.at_ e
  obtain ⟨xs, h2, h3⟩ := h.lst e
  have hs := h.sub (List.eraseIdx_sublist μ i)
  have hn : ∀ o, (p, o) ∉ μ.eraseIdx i := fun o z => by
    have hl : i < μ.length := (List.getElem?_eq_some_iff.mp e).1
    obtain ⟨j, hj, ne⟩ := List.mem_eraseIdx_iff_getElem?.mp z
    exact hj (nodup_get h.nd ne e)
  obtain ⟨q1, q2⟩ := hs.still h1 h2 hn
  exact ⟨_, q2, q1, .lst upd_same (h3.mono q2)⟩
theorem Hs.of_still {H : Hp} (e : Ex K.g H) : Hs K H [] H := ⟨Ex.refl H, List.nodup_nil, fun a o z => (by cases z), e⟩
end

/-- what follows a value -/
def Kont (K : KF) (F : Hp) (Φ : D → Mu → Prop) (Q : VK) : Prop := ∀ v F' H' d μ', Φ d μ' → Ex F F' → Hs K F' μ' H' → Rep K F' v d → Q v H'
def KontA (K : KF) (F : Hp) (Φ : List D → Mu → Prop) (Q : List V → Hp → Prop) : Prop := ∀ v F' H' d μ', Φ d μ' → Ex F F' → Hs K F' μ' H' → Reps K F' v d → Q v H'
def KontT (K : KF) (F : Hp) (Φ : Bool → Mu → Prop) (Q : Bool → Hp → Prop) : Prop := ∀ b F' H' μ', Φ b μ' → Ex F F' → Hs K F' μ' H' → Q b H'
def KontS (K : KF) (F : Hp) (Φ : Rho → Mu → Prop) (Q : St → Hp → Prop) : Prop := ∀ F' H' σ' ρ' μ', Φ ρ' μ' → Ex F F' → Hs K F' μ' H' → Sl K F' ρ' σ' → Q σ' H'
structure En where
  nx : Rho → Mu → Prop
  rt : D → Mu → Prop
  bk : Rho → Mu → Prop := fun _ _ => False
  ct : Rho → Mu → Prop := fun _ _ => False
structure KontE (K : KF) (F : Hp) (E : En) (D : Ends) : Prop where
  nx : KontS K F E.nx D.nx
  rt : Kont K F E.rt D.rt
  bk : KontS K F E.bk D.bk
  ct : KontS K F E.ct D.ct
section
variable {K : KF} {F F' : Hp}
theorem Kont.mono (e : Ex F F') {Φ : D → Mu → Prop} {Q : VK} (k : Kont K F Φ Q) : Kont K F' Φ Q := fun v F1 H1 d μ1 h x => k v F1 H1 d μ1 h (e.trans x)
theorem KontA.mono (e : Ex F F') {Φ : List D → Mu → Prop} {Q : List V → Hp → Prop} (k : KontA K F Φ Q) : KontA K F' Φ Q := fun v F1 H1 d μ1 h x => k v F1 H1 d μ1 h (e.trans x)
theorem KontT.mono (e : Ex F F') {Φ : Bool → Mu → Prop} {Q : Bool → Hp → Prop} (k : KontT K F Φ Q) : KontT K F' Φ Q := fun v F1 H1 μ1 h x => k v F1 H1 μ1 h (e.trans x)
theorem KontS.mono (e : Ex F F') {Φ : Rho → Mu → Prop} {Q : St → Hp → Prop} (k : KontS K F Φ Q) : KontS K F' Φ Q := fun F1 H1 s r μ1 h x => k F1 H1 s r μ1 h (e.trans x)
theorem KontE.mono (e : Ex F F') {E : En} {D : Ends} (k : KontE K F E D) : KontE K F' E D := ⟨k.nx.mono e, k.rt.mono e, k.bk.mono e, k.ct.mono e⟩
end

/-! ### what a piece of syntax does, as it stands -/
section
variable (X : Cy)
def sE (e : Expr) : TE := fun σ H Q => ∀ (pins : List (Addr × Obj)) (s : Shared), Inv X pins σ H s → wpAny (model X.prog X.w) X.A (eval e X.env) (EP X pins σ Q) X.xe s
def sT (e : Expr) : TT := fun σ H Q => ∀ (pins : List (Addr × Obj)) (s : Shared), Inv X pins σ H s → wpAny (model X.prog X.w) X.A (isTrue e X.env (eval e X.env)) (TP X pins σ Q) X.xe s
def sW (e : Expr) : TT := fun σ H Q => ∀ (whole : Sem Value) (pins : List (Addr × Obj)) (s : Shared), Inv X pins σ H s → wpAny (model X.prog X.w) X.A (isTrue e X.env whole) (TP X pins σ Q) X.xe s
def sA (es : List Expr) : TA := fun σ H Q => ∀ (pos : Pos) (pins : List (Addr × Obj)) (s : Shared), Inv X pins σ H s → wpAny (model X.prog X.w) X.A (spliced (backTo pos (starEach es X.env))) (AP X pins σ Q) X.xe s
def sS (st : Stmt) : TS := fun D σ H => ∀ (pins : List (Addr × Obj)) (s : Shared), Inv X pins σ H s → wpAny (model X.prog X.w) X.A (exec st X.env) (SP X pins D) X.xe s
def sSs (st : List Stmt) : TS := fun D σ H => ∀ (pins : List (Addr × Obj)) (s : Shared), Inv X pins σ H s → wpAny (model X.prog X.w) X.A (execs st X.env) (SP X pins D) X.xe s
def sG (tg : Expr) : TG := fun v σ H Q => ∀ (pins : List (Addr × Obj)) (s : Shared) (u : Value), Inv X pins σ H s → RelV v u → wpAny (model X.prog X.w) X.A (assign tg X.env u) (fun _ s' => ∃ σ' H', Inv X pins σ' H' s' ∧ Q σ' H') X.xe s
def sGs (ts : List Expr) : TGs := fun vs σ H Q => ∀ (pins : List (Addr × Obj)) (s : Shared) (us : List Value), Inv X pins σ H s → Vals vs us → wpAny (model X.prog X.w) X.A (assignInOrder ((assignEach ts X.env).map (·.2)) us) (fun _ s' => ∃ σ' H', Inv X pins σ' H' s' ∧ Q σ' H') X.xe s
def sI (tg iter : Expr) : TI := fun σ H R => ∀ (pins : List (Addr × Obj)) (s : Shared), Inv X pins σ H s → wpAny (model X.prog X.w) X.A (eval iter X.env) (fun v s1 => wpAny (model X.prog X.w) X.A (pyIter v) (PIE X pins σ tg R) X.xe s1) X.xe s
end
section
variable {X : Cy}
theorem pe_s {e : Expr} : PE X e (sE X e) := ⟨fun pins s σ H Q I h => h pins s I⟩
theorem pt_s {e : Expr} : PT X e (sT X e) := ⟨fun pins s σ H Q I h => h pins s I⟩
theorem pw_s {e : Expr} : PW X e (sW X e) := ⟨fun w pins s σ H Q I h => h w pins s I⟩
theorem pa_s {es : List Expr} : PA X es (sA X es) := ⟨fun pos pins s σ H Q I h => h pos pins s I⟩
theorem ps_s {st : Stmt} : PS X st (sS X st) := ⟨fun pins s σ H D I h => h pins s I⟩
theorem pss_s {st : List Stmt} : PSs X st (sSs X st) := ⟨fun pins s σ H D I h => h pins s I⟩
theorem pg_s {tg : Expr} : PG X tg (sG X tg) := ⟨fun pins s σ H v u Q I r h => h pins s u I r⟩
theorem pgs_s {tg : List Expr} : PGs X tg (sGs X tg) := ⟨fun pins s σ H v u Q I r h => h pins s u I r⟩
theorem pi_s {tg iter : Expr} : PI X tg iter (sI X tg iter) := ⟨fun pins s σ H R I h => h pins s I⟩
theorem se_of {e : Expr} {t : TE} (p : PE X e t) {σ : St} {H : Hp} {Q : VK} (h : t σ H Q) : sE X e σ H Q := fun pins s I => p.run pins s σ H Q I h
theorem st_of {e : Expr} {t : TT} (p : PT X e t) {σ : St} {H : Hp} {Q : Bool → Hp → Prop} (h : t σ H Q) : sT X e σ H Q := fun pins s I => p.run pins s σ H Q I h
theorem sw_of {e : Expr} {t : TT} (p : PW X e t) {σ : St} {H : Hp} {Q : Bool → Hp → Prop} (h : t σ H Q) : sW X e σ H Q := fun w pins s I => p.run w pins s σ H Q I h
theorem sa_of {e : List Expr} {t : TA} (p : PA X e t) {σ : St} {H : Hp} {Q : List V → Hp → Prop} (h : t σ H Q) : sA X e σ H Q := fun pos pins s I => p.run pos pins s σ H Q I h
theorem ss_of {e : Stmt} {t : TS} (p : PS X e t) {σ : St} {H : Hp} {D : Ends} (h : t D σ H) : sS X e D σ H := fun pins s I => p.run pins s σ H D I h
theorem sss_of {e : List Stmt} {t : TS} (p : PSs X e t) {σ : St} {H : Hp} {D : Ends} (h : t D σ H) : sSs X e D σ H := fun pins s I => p.run pins s σ H D I h
theorem sg_of {e : Expr} {t : TG} (p : PG X e t) {v : V} {σ : St} {H : Hp} {Q : St → Hp → Prop} (h : t v σ H Q) : sG X e v σ H Q := fun pins s u I r => p.run pins s σ H v u Q I r h
theorem sgs_of {e : List Expr} {t : TGs} (p : PGs X e t) {v : List V} {σ : St} {H : Hp} {Q : St → Hp → Prop} (h : t v σ H Q) : sGs X e v σ H Q := fun pins s u I r => p.run pins s σ H v u Q I r h
theorem si_of {tg e : Expr} {t : TI} (p : PI X tg e t) {σ : St} {H : Hp} {R : It → Hp → Prop} (h : t σ H R) : sI X tg e σ H R := fun pins s I => p.run pins s σ H R I h
end

/-! ### the calculus -/
section
variable (X : Cy)
def wE (e : Expr) (ρ : Rho) (μ : Mu) (Φ : D → Mu → Prop) : Prop := ∀ F σ H, Hs X.K F μ H → Sl X.K F ρ σ → ∀ Q, Kont X.K F Φ Q → sE X e σ H Q
def wT (e : Expr) (ρ : Rho) (μ : Mu) (Φ : Bool → Mu → Prop) : Prop := ∀ F σ H, Hs X.K F μ H → Sl X.K F ρ σ → ∀ Q, KontT X.K F Φ Q → sT X e σ H Q
def wW (e : Expr) (ρ : Rho) (μ : Mu) (Φ : Bool → Mu → Prop) : Prop := ∀ F σ H, Hs X.K F μ H → Sl X.K F ρ σ → ∀ Q, KontT X.K F Φ Q → sW X e σ H Q
def wA (es : List Expr) (ρ : Rho) (μ : Mu) (Φ : List D → Mu → Prop) : Prop := ∀ F σ H, Hs X.K F μ H → Sl X.K F ρ σ → ∀ Q, KontA X.K F Φ Q → sA X es σ H Q
def wS (st : Stmt) (ρ : Rho) (μ : Mu) (E : En) : Prop := ∀ F σ H, Hs X.K F μ H → Sl X.K F ρ σ → ∀ D, KontE X.K F E D → sS X st D σ H
def wSs (st : List Stmt) (ρ : Rho) (μ : Mu) (E : En) : Prop := ∀ F σ H, Hs X.K F μ H → Sl X.K F ρ σ → ∀ D, KontE X.K F E D → sSs X st D σ H
def wG (tg : Expr) (d : D) (ρ : Rho) (μ : Mu) (Φ : Rho → Mu → Prop) : Prop := ∀ F σ H v, Hs X.K F μ H → Sl X.K F ρ σ → Rep X.K F v d → ∀ Q, KontS X.K F Φ Q → sG X tg v σ H Q
def wGs (ts : List Expr) (ds : List D) (ρ : Rho) (μ : Mu) (Φ : Rho → Mu → Prop) : Prop := ∀ F σ H vs, Hs X.K F μ H → Sl X.K F ρ σ → Reps X.K F vs ds → ∀ Q, KontS X.K F Φ Q → sGs X ts vs σ H Q
/-- operations by values -/
def wOp (f : Value → Value → Sem Value) (d e : D) (μ : Mu) (Φ : D → Mu → Prop) : Prop := ∀ F H x y, Hs X.K F μ H → Rep X.K F x d → Rep X.K F y e → ∀ Q, Kont X.K F Φ Q → ∀ (pins : List (Addr × Obj)) (s : Shared) (σ : St) (v u : Value), Inv X pins σ H s → RelV x v → RelV y u → wpAny (model X.prog X.w) X.A (f v u) (EP X pins σ Q) X.xe s
def wUn (f : Value → Sem Value) (d : D) (μ : Mu) (Φ : D → Mu → Prop) : Prop := ∀ F H x, Hs X.K F μ H → Rep X.K F x d → ∀ Q, Kont X.K F Φ Q → ∀ (pins : List (Addr × Obj)) (s : Shared) (σ : St) (v : Value), Inv X pins σ H s → RelV x v → wpAny (model X.prog X.w) X.A (f v) (EP X pins σ Q) X.xe s
def wCl (f : Value) (ds : List D) (μ : Mu) (Φ : D → Mu → Prop) : Prop := ∀ F H xs, Hs X.K F μ H → Reps X.K F xs ds → ∀ Q, Kont X.K F Φ Q → ∀ (pins : List (Addr × Obj)) (s : Shared) (σ : St) (us : List Value), Inv X pins σ H s → Vals xs us → wpAny (model X.prog X.w) X.A (call f us) (EP X pins σ Q) X.xe s
/-- a subscript by values -/
def wIx (d e : D) (μ : Mu) (Φ : D → Mu → Prop) : Prop := ∀ F H x y, Hs X.K F μ H → Rep X.K F x d → Rep X.K F y e → ∀ Q, Kont X.K F Φ Q → ∀ (value slice : Expr) (pins : List (Addr × Obj)) (s : Shared) (σ : St) (v u : Value), Inv X pins σ H s → RelV x v → RelV y u →
  subscripted slice false v u = operate [v, u] (getItem v u) → wpAny (model X.prog X.w) X.A (PyProof.Rows.subscriptTail value slice v u) (EP X pins σ Q) X.xe s
/-- what is walked: the items -/
def Wk (K : KF) (F : Hp) (J : It) (its : List D) : Prop := ∀ i F' μ H, Ex F F' → Hs K F' μ H → (i < its.length → J.go i H) ∧ (i = its.length → J.stop i H) ∧ ∀ x H' d, J.yld i H x H' → its[i]? = some d → ∃ F2, Ex F' F2 ∧ Hs K F2 μ H' ∧ Rep K F2 x d
def wI (tg iter : Expr) (ρ : Rho) (μ : Mu) (Φ : List D → Mu → Prop) : Prop := ∀ F σ H, Hs X.K F μ H → Sl X.K F ρ σ → ∀ R, (∀ J its F' μ' H', Φ its μ' → Ex F F' → Hs X.K F' μ' H' → Wk X.K F' J its → R J H') → sI X tg iter σ H R
end

section
variable {X : Cy} {e a b c : Expr} {es : List Expr} {ρ : Rho} {μ : Mu} {Φ : D → Mu → Prop} {ΦT : Bool → Mu → Prop} {ΦA : List D → Mu → Prop} {E : En} {pos p : Pos}

/-! expressions -/
theorem w_name (i : Nat) {x : Str} {d : D} (hN : X.N[i]? = some x) (hv : Vis X.env.scope x) (h : ρ[i]? = some (some d)) (k : Φ d μ) (hd : (x == ("__debug__" : Str)) = false := by decide) (hcd : (x == ("__classdict__" : Str)) = false := by decide) : wE X (.Name x pos) ρ μ Φ := fun F σ H hs sl Q kt => by
  obtain ⟨v, h1, h2⟩ := sl.at_ i d h
  exact se_of (pe_var hN hv hd hcd) ⟨v, h1, kt v F H d μ k (Ex.refl F) hs h2⟩
theorem w_int {i j} (k : Φ (.int i) μ) : wE X (.Constant (.int i) j pos) ρ μ Φ := fun F σ H hs sl Q kt => se_of pe_int (kt _ F H _ μ k (Ex.refl F) hs (.int i))
theorem w_bl {i j} (k : Φ (.bl i) μ) : wE X (.Constant (.bool i) j pos) ρ μ Φ := fun F σ H hs sl Q kt => se_of pe_bl (kt _ F H _ μ k (Ex.refl F) hs (.bl i))
theorem w_non {j} (k : Φ .non μ) : wE X (.Constant .none j pos) ρ μ Φ := fun F σ H hs sl Q kt => se_of pe_non (kt _ F H _ μ k (Ex.refl F) hs .non)
theorem w_str {i j} (k : Φ (.str i) μ) : wE X (.Constant (.str i) j pos) ρ μ Φ := fun F σ H hs sl Q kt => se_of pe_str (kt _ F H _ μ k (Ex.refl F) hs (.str i))
/-- a list made here stands still behind e -/
theorem w_fz (h : wE X e ρ μ fun d μ1 => ∃ i p ds, d = .ptr p ∧ μ1[i]? = some (p, .lst ds) ∧ Φ (.lst ds) (μ1.eraseIdx i)) : wE X e ρ μ Φ := fun F σ H hs sl Q kt =>
  h F σ H hs sl Q fun v F1 H1 d μ1 ⟨i, p, ds, hd, hi, q⟩ x1 hs1 r => by
    subst hd
    cases r
    obtain ⟨F2, x2, hs2, r2⟩ := hs1.freeze hi
    exact kt _ F2 H1 _ _ q (x1.trans x2) hs2 r2
theorem w_mono {Ψ : D → Mu → Prop} (h : wE X e ρ μ Ψ) (k : ∀ d μ', Ψ d μ' → Φ d μ') : wE X e ρ μ Φ := fun F σ H hs sl Q kt => h F σ H hs sl Q fun v F1 H1 d μ1 q => kt v F1 H1 d μ1 (k d μ1 q)
/-- cells that are needed no more -/
theorem w_sub {μ' : Mu} (s : μ'.Sublist μ) (h : wE X e ρ μ' Φ) : wE X e ρ μ Φ := fun F σ H hs sl Q kt => h F σ H (hs.sub s) sl Q kt

/-- cells that are needed no more, behind e -/
theorem w_dr (h : wE X e ρ μ fun d μ1 => ∃ μ2, μ2.Sublist μ1 ∧ Φ d μ2) : wE X e ρ μ Φ := fun F σ H hs sl Q kt => h F σ H hs sl Q fun v F1 H1 d μ1 ⟨μ2, s, q⟩ x hs1 r => kt v F1 H1 d μ2 q x (hs1.sub s) r

theorem binW {R : V → V → Hp → Prop} {ΨT : D → D → Mu → Prop} (h : wE X a ρ μ fun d1 μ1 => wE X b ρ μ1 fun d2 μ2 => ΨT d1 d2 μ2) {F : Hp} {σ : St} {H : Hp} (hs : Hs X.K F μ H) (sl : Sl X.K F ρ σ)
    (k : ∀ x y F2 H2 d1 d2 μ2, ΨT d1 d2 μ2 → Ex F F2 → Hs X.K F2 μ2 H2 → Rep X.K F2 x d1 → Rep X.K F2 y d2 → R x y H2) : sE X a σ H fun x H1 => sE X b σ H1 fun y H2 => R x y H2 :=
  h F σ H hs sl _ fun x F1 H1 d1 μ1 h1 e1 hs1 r1 => h1 F1 σ H1 hs1 (sl.mono e1) _ fun y F2 H2 d2 μ2 h2 e2 hs2 r2 => k x y F2 H2 d1 d2 μ2 h2 (e1.trans e2) hs2 (r1.mono e2) r2
/-- the semantic operator -/
def semR (X : Cy) (f : Value → Value → Sem Value) : R2 := fun x y H Q => ∀ (pins : List (Addr × Obj)) (s : Shared) (σ : St) (v u : Value), Inv X pins σ H s → RelV x v → RelV y u → wpAny (model X.prog X.w) X.A (f v u) (EP X pins σ Q) X.xe s
theorem op_s {f : Value → Value → Sem Value} : OpR X f (semR X f) := fun pins s σ H x y v u Q I rx ry h => h pins s σ v u I rx ry
theorem w_bin {op : Operator} (h : wE X a ρ μ fun d1 μ1 => wE X b ρ μ1 fun d2 μ2 => wOp X (binaryOp op) d1 d2 μ2 Φ) : wE X (.BinOp a op b pos) ρ μ Φ := fun F σ H hs sl Q kt =>
  se_of (pe_op op_s pe_s pe_s) (binW h hs sl fun x y F2 H2 d1 d2 μ2 q e hs2 r1 r2 => q F2 H2 x y hs2 r1 r2 Q (kt.mono e))
theorem w_cmp {op : CmpOp} (h : wE X a ρ μ fun d1 μ1 => wE X b ρ μ1 fun d2 μ2 => wOp X (compareOp op) d1 d2 μ2 Φ) (hm : behindInMarks op b = false := by rfl) : wE X (.Compare a [op] [b] pos) ρ μ Φ := fun F σ H hs sl Q kt =>
  se_of (pe_cmpR op_s pe_s pe_s hm) (binW h hs sl fun x y F2 H2 d1 d2 μ2 q e hs2 r1 r2 => q F2 H2 x y hs2 r1 r2 Q (kt.mono e))
theorem w_un {op : UnaryOp} (h : wE X a ρ μ fun d1 μ1 => wUn X (unaryOp op) d1 μ1 Φ) : wE X (.UnaryOp op a pos) ρ μ Φ := fun F σ H hs sl Q kt =>
  se_of (pe_un (r := fun x H Q => ∀ (pins : List (Addr × Obj)) (s : Shared) (σ : St) (v : Value), Inv X pins σ H s → RelV x v → wpAny (model X.prog X.w) X.A (unaryOp op v) (EP X pins σ Q) X.xe s) (fun pins s σ H x v Q I r h => h pins s σ v I r) pe_s)
    (h F σ H hs sl _ fun x F1 H1 d1 μ1 q e1 hs1 r1 => q F1 H1 x hs1 r1 Q (kt.mono e1))
theorem w_ix (h : wE X a ρ μ fun d1 μ1 => wE X b ρ μ1 fun d2 μ2 => wIx X d1 d2 μ2 Φ) (hs : PlainIx b := by exact fun _ _ => rfl) : wE X (.Subscript a b pos) ρ μ Φ := fun F σ H hh sl Q kt =>
  se_of (pe_ix (r := fun x y H Q => ∀ (value slice : Expr) (pins : List (Addr × Obj)) (s : Shared) (σ : St) (v u : Value), Inv X pins σ H s → RelV x v → RelV y u →
    subscripted slice false v u = operate [v, u] (getItem v u) → wpAny (model X.prog X.w) X.A (PyProof.Rows.subscriptTail value slice v u) (EP X pins σ Q) X.xe s) (fun value slice pins s σ H x y v u Q I rx ry h z => h value slice pins s σ v u I rx ry z) pe_s pe_s hs)
    (binW h hh sl fun x y F2 H2 d1 d2 μ2 q e hs2 r1 r2 => q F2 H2 x y hs2 r1 r2 Q (kt.mono e))
/-! argument lists, displays -/
theorem wa_nil (k : ΦA [] μ) : wA X [] ρ μ ΦA := fun F σ H hs sl Q kt => sa_of pa_nil (kt [] F H [] μ k (Ex.refl F) hs .nil)
theorem wa_cons (h : wE X e ρ μ fun d μ1 => wA X es ρ μ1 fun ds μ2 => ΦA (d :: ds) μ2) (hst : starEach (e :: es) X.env = (false, eval e X.env) :: starEach es X.env := by rfl) : wA X (e :: es) ρ μ ΦA := fun F σ H hs sl Q kt =>
  sa_of (pa_cons pe_s pa_s hst) (h F σ H hs sl _ fun x F1 H1 d μ1 h1 e1 hs1 r1 => h1 F1 σ H1 hs1 (sl.mono e1) _ fun xs F2 H2 ds μ2 h2 e2 hs2 r2 => kt (x :: xs) F2 H2 (d :: ds) μ2 h2 (e1.trans e2) hs2 (.cons (r1.mono e2) r2))
theorem w_tup {n} (h : wA X es ρ μ fun ds μ1 => ds.length ≤ 100000 ∧ Φ (.tup ds) μ1) : wE X (.Tuple es n pos) ρ μ Φ := fun F σ H hs sl Q kt =>
  se_of (pe_tup pa_s) (h F σ H hs sl _ fun xs F1 H1 ds μ1 ⟨hz, q⟩ e1 hs1 r1 => ⟨Evl.sz_of (by rw [r1.length]; exact hz), fun p hp => by
    obtain ⟨g1, g2⟩ := hs1.laid (u := .tup xs) hp
    exact kt _ _ _ _ _ q (e1.trans g2) g1 (.tup upd_same (r1.mono g2))⟩)
/-- a list that stands still from the start -/
theorem w_lst (h : wA X es ρ μ fun ds μ1 => ds.length ≤ 100000 ∧ Φ (.lst ds) μ1) : wE X (.List es pos) ρ μ Φ := fun F σ H hs sl Q kt =>
  se_of (pe_lst pa_s) (h F σ H hs sl _ fun xs F1 H1 ds μ1 ⟨hz, q⟩ e1 hs1 r1 => ⟨Evl.sz_of (by rw [r1.length]; exact hz), fun p hp => by
    obtain ⟨g1, g2⟩ := hs1.laid (u := .lst xs) hp
    exact kt _ _ _ _ _ q (e1.trans g2) g1 (.lst upd_same (r1.mono g2))⟩)
/-- a list that will change -/
theorem w_lstM (h : wA X es ρ μ fun ds μ1 => ds.length ≤ 100000 ∧ ∀ p, Φ (.ptr p) ((p, .lst ds) :: μ1)) : wE X (.List es pos) ρ μ Φ := fun F σ H hs sl Q kt =>
  se_of (pe_lst pa_s) (h F σ H hs sl _ fun xs F1 H1 ds μ1 ⟨hz, q⟩ e1 hs1 r1 => ⟨Evl.sz_of (by rw [r1.length]; exact hz), fun p hp => kt _ _ _ _ _ (q p) e1 (hs1.cell hp (.lst r1)) (.ptr p)⟩)
/-! calls -/
theorem w_callB {x : Str} {id : String} (hm : X.mg x = none) (h : wA X (e :: es) ρ μ fun ds μ1 => wCl X (.builtin id) ds μ1 Φ) (hg : Gl X x := by rfl) (hv : bootBuiltins x = some (.builtin id) := by decide +kernel) (hn : x ≠ "__name__" := by decide) (hdb : (x == ("__debug__" : Str)) = false := by decide)
    (he : starEach (e :: es) X.env = (false, eval e X.env) :: starEach es X.env := by rfl) (hpl : (backTo pos (starEach es X.env)).any (·.1) = false := by rfl) : wE X (.Call (.Name x p) (e :: es) [] pos) ρ μ Φ := fun F σ H hs sl Q kt =>
  se_of (pe_callB (r := fun xs H Q => ∀ (pins : List (Addr × Obj)) (s : Shared) (σ : St) (us : List Value), Inv X pins σ H s → Vals xs us → wpAny (model X.prog X.w) X.A (call (.builtin id) us) (EP X pins σ Q) X.xe s) (fun pins s σ H xs us Q I r h => h pins s σ us I r) hg hm hv pa_s hn hdb he hpl)
    (h F σ H hs sl _ fun xs F1 H1 ds μ1 q e1 hs1 r1 => q F1 H1 xs hs1 r1 Q (kt.mono e1))
theorem w_callTy {x : Str} {T : String} (hm : X.mg x = none) (h : wA X (e :: es) ρ μ fun ds μ1 => wCl X (.type T) ds μ1 Φ) (hg : Gl X x := by rfl) (hv : bootBuiltins x = some (.type T) := by decide +kernel) (hn : x ≠ "__name__" := by decide) (hdb : (x == ("__debug__" : Str)) = false := by decide)
    (he : starEach (e :: es) X.env = (false, eval e X.env) :: starEach es X.env := by rfl) (hpl : (backTo pos (starEach es X.env)).any (·.1) = false := by rfl) : wE X (.Call (.Name x p) (e :: es) [] pos) ρ μ Φ := fun F σ H hs sl Q kt =>
  se_of (pe_callTy (r := fun xs H Q => ∀ (pins : List (Addr × Obj)) (s : Shared) (σ : St) (us : List Value), Inv X pins σ H s → Vals xs us → wpAny (model X.prog X.w) X.A (call (.type T) us) (EP X pins σ Q) X.xe s) (fun pins s σ H xs us Q I r h => h pins s σ us I r) hg hm hv pa_s hn hdb he hpl)
    (h F σ H hs sl _ fun xs F1 H1 ds μ1 q e1 hs1 r1 => q F1 H1 xs hs1 r1 Q (kt.mono e1))
/-- a value that names a built-in type, as an argument -/
abbrev FS := List D → Mu → (D → Mu → Prop) → Prop
/-- a def's promise over data -/
def spD (K : PySem.W.Frag) (S : FS) : Sp := fun vs H Q _ => ∃ (g F : Hp) (ds : List D) (μ : Mu) (Φ : D → Mu → Prop), Hs ⟨K, g⟩ F μ H ∧ Reps K F vs ds ∧ S ds μ Φ ∧ Kont ⟨K, g⟩ F Φ Q
/-- a method of a built-in type -/
def wMt (X : Cy) (T id : String) (d : D) (ds : List D) (μ : Mu) (Φ : D → Mu → Prop) : Prop := ∀ F H x xs, Hs X.K F μ H → Rep X.K F x d → Reps X.K F xs ds → ∀ Q, Kont X.K F Φ Q → ∀ (pins : List (Addr × Obj)) (s : Shared) (σ : St) (v : Value) (us : List Value), Inv X pins σ H s → RelV x v → Vals xs us → wpAny (model X.prog X.w) X.A (call (.builtin id) (v :: us)) (EP X pins σ Q) X.xe s
/-- of which type the receiver is -/
def tyD (T : String) (d : D) (μ : Mu) : Prop := match d with
  | .str _ => T = "str"
  | .lst _ => T = "list"
  | .scr _ => T = "list"
  | .tup _ => T = "tuple"
  | .tpl _ => T = "tuple"
  | .ptr p => (T = "list" ∧ ∃ (i : Nat) (l : List D), μ[i]? = some (p, MO.lst l)) ∨ (T = "dict" ∧ ∃ (i : Nat) (l : List (Key × D)), μ[i]? = some (p, MO.dk l)) ∨ (T = "dict" ∧ ∃ (i : Nat) (l : List (List Key × D)), μ[i]? = some (p, MO.dt l))
  | _ => False
end
end Oc

/-! Own layer, part 2: statements, loops, comprehensions, defs. -/
namespace Oc
open PySem PySem.Spec L2
open Evl (Ex)
section
variable {X : Cy} {e a b c : Expr} {es : List Expr} {st : Stmt} {sts us : List Stmt} {ρ : Rho} {μ : Mu} {Φ : D → Mu → Prop} {ΦT : Bool → Mu → Prop} {ΦA : List D → Mu → Prop} {ΦS : Rho → Mu → Prop} {E : En} {pos p : Pos}

/-! tests -/
theorem wt_val (h : wE X e ρ μ fun d μ1 => ∃ b, d = .bl b ∧ ΦT b μ1) (he : ∀ whole, isTrue e X.env whole = (do let v ← whole; standAt e.pos; holding [v] (truthy v)) := by intro _; rfl) : wT X e ρ μ ΦT := fun F σ H hs sl Q kt =>
  st_of (pt_val pe_s he) (h F σ H hs sl _ fun v F1 H1 d μ1 ⟨b, hd, q⟩ e1 hs1 r1 => by
    subst hd
    cases r1
    exact ⟨b, rfl, kt b F1 H1 μ1 q e1 hs1⟩)
theorem wt_cmp {op : CmpOp} (h : wE X a ρ μ fun d1 μ1 => wE X b ρ μ1 fun d2 μ2 => wOp X (compareOp op) d1 d2 μ2 fun d μ3 => ∃ k, d = .bl k ∧ ΦT k μ3) (hm : behindInMarks op b = false := by rfl) : wT X (.Compare a [op] [b] pos) ρ μ ΦT := fun F σ H hs sl Q kt =>
  st_of (pt_cmpR op_s pe_s pe_s hm) (binW h hs sl fun x y F2 H2 d1 d2 μ2 q e hs2 r1 r2 => q F2 H2 x y hs2 r1 r2 _ fun v F3 H3 d μ3 ⟨k, hd, q3⟩ e3 hs3 r3 => by
    subst hd
    cases r3
    exact ⟨k, rfl, kt k F3 H3 μ3 q3 (e.trans e3) hs3⟩)
theorem wt_not (h : wT X a ρ μ fun b μ1 => ΦT (!b) μ1) : wT X (.UnaryOp .Not a pos) ρ μ ΦT := fun F σ H hs sl Q kt =>
  st_of (pt_not pt_s) (h F σ H hs sl _ fun b F1 H1 μ1 q e1 hs1 => kt (!b) F1 H1 μ1 q e1 hs1)
theorem wt_w (h : wW X e ρ μ ΦT) : wT X e ρ μ ΦT := fun F σ H hs sl Q kt => st_of (PW.pt pw_s) (h F σ H hs sl Q kt)
theorem ww_and1 (h : wT X a ρ μ ΦT) : wW X (.BoolOp .And [a] pos) ρ μ ΦT := fun F σ H hs sl Q kt => sw_of (pw_and1 pt_s) (h F σ H hs sl Q kt)
theorem ww_or1 (h : wT X a ρ μ ΦT) : wW X (.BoolOp .Or [a] pos) ρ μ ΦT := fun F σ H hs sl Q kt => sw_of (pw_or1 pt_s) (h F σ H hs sl Q kt)
theorem ww_and {rest : List Expr} (h : wT X a ρ μ fun k μ1 => (k = true → wW X (.BoolOp .And (b :: rest) pos) ρ μ1 ΦT) ∧ (k = false → ΦT false μ1)) : wW X (.BoolOp .And (a :: b :: rest) pos) ρ μ ΦT := fun F σ H hs sl Q kt =>
  sw_of (pw_and pt_s pw_s) (h F σ H hs sl _ fun k F1 H1 μ1 q e1 hs1 => by
    cases k with
    | true => exact q.1 rfl F1 σ H1 hs1 (sl.mono e1) Q (kt.mono e1)
    | false => exact kt false F1 H1 μ1 (q.2 rfl) e1 hs1)
theorem ww_or {rest : List Expr} (h : wT X a ρ μ fun k μ1 => (k = false → wW X (.BoolOp .Or (b :: rest) pos) ρ μ1 ΦT) ∧ (k = true → ΦT true μ1)) : wW X (.BoolOp .Or (a :: b :: rest) pos) ρ μ ΦT := fun F σ H hs sl Q kt =>
  sw_of (pw_or pt_s pw_s) (h F σ H hs sl _ fun k F1 H1 μ1 q e1 hs1 => by
    cases k with
    | false => exact q.1 rfl F1 σ H1 hs1 (sl.mono e1) Q (kt.mono e1)
    | true => exact kt true F1 H1 μ1 (q.2 rfl) e1 hs1)
theorem wt_mono {Ψ : Bool → Mu → Prop} (h : wT X e ρ μ Ψ) (k : ∀ d μ', Ψ d μ' → ΦT d μ') : wT X e ρ μ ΦT := fun F σ H hs sl Q kt => h F σ H hs sl Q fun v F1 H1 μ1 q => kt v F1 H1 μ1 (k v μ1 q)
/-- and, or, not, if as values -/
theorem w_andV {rest : List Expr} (h : wE X a ρ μ fun d μ1 => ∃ k, d = .bl k ∧ (k = true → wE X (.BoolOp .And (b :: rest) pos) ρ μ1 Φ) ∧ (k = false → Φ (.bl false) μ1)) : wE X (.BoolOp .And (a :: b :: rest) pos) ρ μ Φ := fun F σ H hs sl Q kt =>
  se_of (pe_and pe_s pe_s) (h F σ H hs sl _ fun v F1 H1 d μ1 ⟨k, hd, q⟩ e1 hs1 r1 => by
    subst hd
    cases r1
    refine ⟨k, rfl, ?_⟩
    cases k with
    | true => exact q.1 rfl F1 σ H1 hs1 (sl.mono e1) Q (kt.mono e1)
    | false => exact kt _ F1 H1 _ μ1 (q.2 rfl) e1 hs1 (.bl false))
theorem w_orV {rest : List Expr} (h : wE X a ρ μ fun d μ1 => ∃ k, d = .bl k ∧ (k = false → wE X (.BoolOp .Or (b :: rest) pos) ρ μ1 Φ) ∧ (k = true → Φ (.bl true) μ1)) : wE X (.BoolOp .Or (a :: b :: rest) pos) ρ μ Φ := fun F σ H hs sl Q kt =>
  se_of (pe_or pe_s pe_s) (h F σ H hs sl _ fun v F1 H1 d μ1 ⟨k, hd, q⟩ e1 hs1 r1 => by
    subst hd
    cases r1
    refine ⟨k, rfl, ?_⟩
    cases k with
    | false => exact q.1 rfl F1 σ H1 hs1 (sl.mono e1) Q (kt.mono e1)
    | true => exact kt _ F1 H1 _ μ1 (q.2 rfl) e1 hs1 (.bl true))
theorem w_notV (h : wE X a ρ μ fun d μ1 => ∃ k, d = .bl k ∧ Φ (.bl (!k)) μ1) : wE X (.UnaryOp .Not a pos) ρ μ Φ := fun F σ H hs sl Q kt =>
  se_of (pe_not pe_s) (h F σ H hs sl _ fun v F1 H1 d μ1 ⟨k, hd, q⟩ e1 hs1 r1 => by
    subst hd
    cases r1
    exact ⟨k, rfl, kt _ F1 H1 _ μ1 q e1 hs1 (.bl _)⟩)
theorem w_andV1 (h : wE X a ρ μ Φ) : wE X (.BoolOp .And [a] pos) ρ μ Φ := fun F σ H hs sl Q kt => se_of (pe_one (op := .And) pe_s) (h F σ H hs sl Q kt)
theorem w_orV1 (h : wE X a ρ μ Φ) : wE X (.BoolOp .Or [a] pos) ρ μ Φ := fun F σ H hs sl Q kt => se_of (pe_one (op := .Or) pe_s) (h F σ H hs sl Q kt)
theorem w_ifx (h : wT X c ρ μ fun k μ1 => (k = true → wE X a ρ μ1 Φ) ∧ (k = false → wE X b ρ μ1 Φ)) : wE X (.IfExp c a b pos) ρ μ Φ := fun F σ H hs sl Q kt =>
  se_of (pe_ifExp pt_s pe_s pe_s) (h F σ H hs sl _ fun k F1 H1 μ1 q e1 hs1 => by
    cases k with
    | true =>
      rw [if_pos rfl]
      exact q.1 rfl F1 σ H1 hs1 (sl.mono e1) Q (kt.mono e1)
    | false =>
      rw [if_neg Bool.false_ne_true]
      exact q.2 rfl F1 σ H1 hs1 (sl.mono e1) Q (kt.mono e1))

/-! statements -/
theorem w_nil (k : E.nx ρ μ) : wSs X [] ρ μ E := fun F σ H hs sl D kt => sss_of pss_nil (kt.nx F H σ ρ μ k (Ex.refl F) hs sl)
theorem KontE.nx' {K : KF} {F : Hp} {E : En} {D : Ends} (k : KontE K F E D) {R : Rho → Mu → Prop} {R' : L2.St → Hp → Prop} (h : KontS K F R R') : KontE K F { E with nx := R } { D with nx := R' } := ⟨h, k.rt, k.bk, k.ct⟩
theorem w_cons (h : wS X st ρ μ { E with nx := fun ρ' μ' => wSs X sts ρ' μ' E }) : wSs X (st :: sts) ρ μ E := fun F σ H hs sl D kt =>
  sss_of (pss_cons ps_s pss_s) (h F σ H hs sl _ (kt.nx' fun F1 H1 σ1 ρ1 μ1 q e1 hs1 sl1 => q F1 σ1 H1 hs1 sl1 D (kt.mono e1)))
theorem w_one (h : wS X st ρ μ E) : wSs X [st] ρ μ E := fun F σ H hs sl D kt => sss_of (pss_one ps_s) (h F σ H hs sl D kt)
theorem w_expr (h : wE X e ρ μ fun _ μ1 => E.nx ρ μ1) (hsw : swapsWith e none pos.line X.env = pure false := by rfl) : wS X (.Expr e pos) ρ μ E := fun F σ H hs sl D kt =>
  ss_of (ps_expr pe_s hsw) (h F σ H hs sl _ fun v F1 H1 d μ1 q e1 hs1 _ => kt.nx F1 H1 σ ρ μ1 q e1 hs1 (sl.mono e1))
theorem w_ret (h : wE X e ρ μ E.rt) : wS X (.Return (some e) pos) ρ μ E := fun F σ H hs sl D kt => ss_of (ps_ret pe_s) (h F σ H hs sl _ kt.rt)
theorem w_retN (h : E.rt .non μ) : wS X (.Return none pos) ρ μ E := fun F σ H hs sl D kt => ss_of ps_retN (kt.rt _ F H _ μ h (Ex.refl F) hs .non)
theorem w_pass (h : E.nx ρ μ) : wS X (.Pass pos) ρ μ E := fun F σ H hs sl D kt => ss_of ps_pass (kt.nx F H σ ρ μ h (Ex.refl F) hs sl)
theorem w_brk (h : E.bk ρ μ) : wS X (.Break pos) ρ μ E := fun F σ H hs sl D kt => ss_of ps_break (kt.bk F H σ ρ μ h (Ex.refl F) hs sl)
theorem w_cnt (h : E.ct ρ μ) : wS X (.Continue pos) ρ μ E := fun F σ H hs sl D kt => ss_of ps_continue (kt.ct F H σ ρ μ h (Ex.refl F) hs sl)
theorem w_if (h : wT X c ρ μ fun k μ1 => (k = true → wSs X sts ρ μ1 E) ∧ (k = false → wSs X us ρ μ1 E)) : wS X (.If c sts us pos) ρ μ E := fun F σ H hs sl D kt =>
  ss_of (ps_if pt_s pss_s pss_s) (h F σ H hs sl _ fun k F1 H1 μ1 q e1 hs1 => by
    cases k with
    | true =>
      rw [if_pos rfl]
      exact q.1 rfl F1 σ H1 hs1 (sl.mono e1) D (kt.mono e1)
    | false =>
      rw [if_neg Bool.false_ne_true]
      exact q.2 rfl F1 σ H1 hs1 (sl.mono e1) D (kt.mono e1))
/-- what is known of cells and slots may be said with less -/
theorem wSs_sub {μ' : Mu} (s : μ'.Sublist μ) (h : wSs X sts ρ μ' E) : wSs X sts ρ μ E := fun F σ H hs sl D kt => h F σ H (hs.sub s) sl D kt
/-- a list is changed no more: cell i, which slot j names -/
theorem wSs_fz {i j : Nat} {q : Addr} {ds : List D} (hi : μ[i]? = some (q, .lst ds)) (hj : ρ[j]? = some (some (.ptr q))) (h : wSs X sts (ρ.set j (some (.lst ds))) (μ.eraseIdx i) E) : wSs X sts ρ μ E := fun F σ H hs sl D kt => by
  obtain ⟨F', e1, hs1, r1⟩ := hs.freeze hi
  obtain ⟨v, hv, rv⟩ := sl.at_ j _ hj
  cases rv
  have e2 : σ.set j (some (V.ref q)) = σ := by
    apply List.ext_getElem?
    intro k
    by_cases hk : j = k
    · subst hk
      rw [List.getElem?_set_self (List.getElem?_eq_some_iff.mp hv).1, hv]
    · rw [List.getElem?_set_ne hk]
  have sl1 := (sl.mono e1).set j r1
  rw [e2] at sl1
  exact h F' σ H hs1 sl1 D (kt.mono e1)

/-! targets -/
theorem wg_name (i : Nat) {x : Str} {d : D} (hN : X.N.Nodup) (hi : X.N[i]? = some x) (hx : Loc X.env.scope x) (hf : X.fn x = true ∨ X.env.scope.names.lookup x = some .local) (k : ΦS (ρ.set i (some d)) μ) : wG X (.Name x pos) d ρ μ ΦS := fun F σ H v hs sl r Q kt =>
  sg_of (pg_name hN hi hx hf) (kt F H _ _ μ k (Ex.refl F) hs (sl.set i r))
theorem wgs_nil (k : ΦS ρ μ) : wGs X [] [] ρ μ ΦS := fun F σ H v hs sl r Q kt => by
  cases r
  exact sgs_of pgs_nil ⟨rfl, kt F H σ ρ μ k (Ex.refl F) hs sl⟩
theorem wgs_cons {d : D} {ds : List D} (h : wG X e d ρ μ fun ρ1 μ1 => wGs X es ds ρ1 μ1 ΦS) (hs : (assignEach (e :: es) X.env).map (·.2) = assign e X.env :: (assignEach es X.env).map (·.2) := by rfl) : wGs X (e :: es) (d :: ds) ρ μ ΦS := fun F σ H vs hh sl r Q kt => by
  cases r with
  | cons r rr =>
    exact sgs_of (pgs_cons pg_s pgs_s hs) ⟨_, _, rfl, h F σ H _ hh sl r _ fun F1 H1 σ1 ρ1 μ1 q e1 hs1 sl1 => q F1 σ1 H1 _ hs1 sl1 (rr.mono e1) Q (kt.mono e1)⟩
theorem wg_tup {n : Nat} {ds : List D} (hc : X.calm = true) (hl : ds.length = es.length) (h : wGs X es ds ρ μ ΦS) (hn : (assignEach es X.env).length = es.length := by rfl) (hst : (assignEach es X.env).findIdx? (·.1) = none := by rfl) : wG X (.Tuple es n pos) (.tup ds) ρ μ ΦS := fun F σ H v hs sl r Q kt => by
  cases r with
  | tup h1 h2 => exact sg_of (pg_tup hc pgs_s hn hst) ⟨_, _, rfl, (Evl.st_of (hs.ex _ _ h1)), h2.length.trans hl, h F σ H _ hs sl h2 Q kt⟩
theorem w_asg {tg : Expr} (h : wE X e ρ μ fun d μ1 => wG X tg d ρ μ1 E.nx) (hs : swapsWithSole [tg] e pos.line X.env = pure false := by rfl) (hw : swappedStores [tg] e X.env = pure none := by rfl)
    (h1 : (assignEach [tg] X.env).map (·.2) = [assign tg X.env] := by rfl) : wS X (.Assign [tg] e pos) ρ μ E := fun F σ H hh sl D kt =>
  ss_of (ps_asg pe_s pg_s hs hw h1) (h F σ H hh sl _ fun v F1 H1 d μ1 q e1 hs1 r1 => q F1 σ H1 v hs1 (sl.mono e1) r1 _ (kt.nx.mono e1))
theorem w_set (i : Nat) {x : Str} {q : Pos} (hN : X.N.Nodup) (hi : X.N[i]? = some x) (hx : Loc X.env.scope x) (hf : X.fn x = true ∨ X.env.scope.names.lookup x = some .local) (h : wE X e ρ μ fun d μ1 => E.nx (ρ.set i (some d)) μ1)
    (hs : swapsWith e (some (.Name x q)) pos.line X.env = pure false := by rfl) : wS X (.Assign [.Name x q] e pos) ρ μ E := fun F σ H hh sl D kt =>
  ss_of (ps_set hN hi hx pe_s hs hf) (h F σ H hh sl _ fun v F1 H1 d μ1 q e1 hs1 r1 => kt.nx F1 H1 _ _ μ1 q e1 hs1 ((sl.mono e1).set i r1))
theorem w_par (i j : Nat) {x y : Str} {px py pt : Pos} {kt' k2 : Nat} {pt2 : Pos} (hc : X.calm = true) (hN : X.N.Nodup) (hi : X.N[i]? = some x) (hj : X.N[j]? = some y) (hij : i ≠ j)
    (hx : X.env.scope.names.lookup x = some .local) (hy : X.env.scope.names.lookup y = some .local) (hw : swappedStores [.Tuple [.Name x px, .Name y py] kt' pt] (.Tuple [a, b] k2 pt2) X.env = pure (some [x, y]))
    (h : wA X [a, b] ρ μ fun ds μ1 => ∃ d1 d2, ds = [d1, d2] ∧ E.nx ((ρ.set i (some d1)).set j (some d2)) μ1)
    (hs : swapsWithSole [.Tuple [.Name x px, .Name y py] kt' pt] (.Tuple [a, b] k2 pt2) pos.line X.env = pure false := by rfl) : wS X (.Assign [.Tuple [.Name x px, .Name y py] kt' pt] (.Tuple [a, b] k2 pt2) pos) ρ μ E := fun F σ H hh sl D kt =>
  ss_of (ps_par hc hN hi hj hij hx hy pa_s hw hs) (h F σ H hh sl _ fun vs F1 H1 ds μ1 ⟨d1, d2, hd, q⟩ e1 hs1 r1 => by
    subst hd
    cases r1 with
    | cons r1 rr =>
      cases rr with
      | cons r2 rr =>
        cases rr
        exact ⟨_, _, rfl, kt.nx F1 H1 _ _ μ1 q e1 hs1 (((sl.mono e1).set i r1).set j r2)⟩)

/-! loops -/
theorem w_for {tg iter : Expr} {body : List Stmt} (h : wI X tg iter ρ μ fun its μ1 => ∃ Iv : Nat → Rho → Mu → Prop, Iv 0 ρ μ1 ∧
      (∀ i x ρ' μ', its[i]? = some x → Iv i ρ' μ' → wG X tg x ρ' μ' fun ρ2 μ2 => wSs X body ρ2 μ2 { nx := Iv (i + 1), rt := E.rt, bk := E.nx, ct := Iv (i + 1) }) ∧ (∀ ρ' μ', Iv its.length ρ' μ' → E.nx ρ' μ'))
    (hp : PassesOwn (model X.prog X.w) X.A X.env X.xe) (hc : X.calm = true) (hs : ∀ x, foldedSetIterable iter X.env x = pure x := by intro _; rfl) : wS X (.For tg iter body [] pos) ρ μ E := fun F σ H hh sl D kt =>
  ss_of (ps_for hp hc pi_s pg_s pss_s hs) (h F σ H hh sl _ fun J its F1 μ1 H1 ⟨Iv, h0, ht, hd⟩ e1 hs1 wk => by
    refine ⟨fun i m σ' H' => m = its.length - i ∧ i ≤ its.length ∧ ∃ F' ρ' μ', Ex F1 F' ∧ Hs X.K F' μ' H' ∧ Sl X.K F' ρ' σ' ∧ Iv i ρ' μ', ⟨its.length, by simp, Nat.zero_le _, F1, ρ, μ1, Ex.refl _, hs1, sl.mono e1, h0⟩, ?_⟩
    rintro i m σ' H' ⟨rfl, hi, F', ρ', μ', e2, hs2, sl2, iv⟩
    obtain ⟨w1, w2, w3⟩ := wk i F' μ' H' e2 hs2
    by_cases hlt : i < its.length
    · refine .inr ⟨w1 hlt, fun σ3 H3 => ∃ F3 ρ3 μ3, Ex F1 F3 ∧ Hs X.K F3 μ3 H3 ∧ Sl X.K F3 ρ3 σ3 ∧ Iv (i + 1) ρ3 μ3, fun σ3 H3 q => ⟨its.length - (i + 1), by omega, rfl, hlt, q⟩, fun x H3 hy => ?_⟩
      have hx : its[i]? = some its[i] := List.getElem?_eq_getElem hlt
      obtain ⟨F3, e3, hs3, r3⟩ := w3 x H3 _ hy hx
      refine ht i _ ρ' μ' hx iv F3 σ' H3 x hs3 (sl2.mono e3) r3 _ fun F4 H4 σ4 ρ4 μ4 q4 e4 hs4 sl4 => ?_
      have up : ∀ {F5 : Hp}, Ex F4 F5 → Ex F1 F5 := fun z => e2.trans (e3.trans (e4.trans z))
      refine q4 F4 σ4 H4 hs4 sl4 _ ⟨fun F5 H5 σ5 ρ5 μ5 q5 e5 hs5 sl5 => ⟨F5, ρ5, μ5, up e5, hs5, sl5, q5⟩, ?_, ?_, fun F5 H5 σ5 ρ5 μ5 q5 e5 hs5 sl5 => ⟨F5, ρ5, μ5, up e5, hs5, sl5, q5⟩⟩
      · exact kt.rt.mono (e1.trans (up (Ex.refl _)))
      · exact kt.nx.mono (e1.trans (up (Ex.refl _)))
    · have he : i = its.length := by omega
      subst he
      exact .inl ⟨w2 rfl, kt.nx F' H' σ' ρ' μ' (hd ρ' μ' iv) (e1.trans e2) hs2 sl2⟩)
theorem w_while {body : List Stmt} (Iv : Nat → Rho → Mu → Prop) (m0 : Nat) (h0 : Iv m0 ρ μ)
    (ht : ∀ m ρ' μ', Iv m ρ' μ' → wT X c ρ' μ' fun k μ1 => (k = true → wSs X body ρ' μ1 { nx := fun ρ2 μ2 => ∃ m', m' < m ∧ Iv m' ρ2 μ2, rt := E.rt, bk := E.nx, ct := fun ρ2 μ2 => ∃ m', m' < m ∧ Iv m' ρ2 μ2 }) ∧ (k = false → E.nx ρ' μ1))
    (hp : PassesOwn (model X.prog X.w) X.A X.env X.xe) : wS X (.While c body [] pos) ρ μ E := fun F σ H hh sl D kt =>
  ss_of (ps_while hp pt_s pss_s) (by
    refine ⟨fun m σ' H' => ∃ F' ρ' μ', Ex F F' ∧ Hs X.K F' μ' H' ∧ Sl X.K F' ρ' σ' ∧ Iv m ρ' μ', ⟨m0, F, ρ, μ, Ex.refl _, hh, sl, h0⟩, ?_⟩
    rintro m σ' H' ⟨F', ρ', μ', e2, hs2, sl2, iv⟩
    refine ht m ρ' μ' iv F' σ' H' hs2 sl2 _ fun k F3 H3 μ3 q e3 hs3 => ?_
    cases k with
    | true =>
      refine ⟨fun σ4 H4 => ∃ m', m' < m ∧ ∃ F4 ρ4 μ4, Ex F F4 ∧ Hs X.K F4 μ4 H4 ∧ Sl X.K F4 ρ4 σ4 ∧ Iv m' ρ4 μ4, fun σ4 H4 ⟨m', h1, h2⟩ => ⟨m', h1, h2⟩, ?_⟩
      refine q.1 rfl F3 σ' H3 hs3 (sl2.mono e3) _ ⟨fun F5 H5 σ5 ρ5 μ5 ⟨m', h1, h2⟩ e5 hs5 sl5 => ⟨m', h1, F5, ρ5, μ5, e2.trans (e3.trans e5), hs5, sl5, h2⟩, kt.rt.mono (e2.trans e3), kt.nx.mono (e2.trans e3), fun F5 H5 σ5 ρ5 μ5 ⟨m', h1, h2⟩ e5 hs5 sl5 => ⟨m', h1, F5, ρ5, μ5, e2.trans (e3.trans e5), hs5, sl5, h2⟩⟩
    | false => exact kt.nx F3 H3 σ' ρ' μ3 (q.2 rfl) (e2.trans e3) hs3 (sl2.mono e3))

/-! what is walked -/
theorem wi_lst {tg : Expr} {ΦI : List D → Mu → Prop} (h : wE X e ρ μ fun d μ1 => ∃ ds, d = .lst ds ∧ ΦI ds μ1) : wI X tg e ρ μ ΦI := fun F σ H hs sl R kt =>
  si_of (pi_list pe_s) (h F σ H hs sl _ fun v F1 H1 d μ1 ⟨ds, hd, q⟩ e1 hs1 r1 => by
    subst hd
    cases r1 with
    | lst g r =>
      rename_i a xs
      refine ⟨a, rfl, ⟨xs, Evl.ex_l hs1.ex (Evl.sq_of g)⟩, kt _ ds F1 μ1 H1 q e1 hs1 fun i F' μ' H' e' hs' => ?_⟩
      have g' : SqL X.K H' a xs := Evl.ex_l hs'.ex (Evl.ex_l e' (Evl.sq_of g))
      refine ⟨fun hi => ⟨xs, xs[i]'(by rw [r.length]; exact hi), g', List.getElem?_eq_getElem _⟩, fun hi => ⟨xs, g', by rw [r.length]; exact Nat.le_of_eq hi.symm⟩, fun x H2 d hy hd => ?_⟩
      obtain ⟨rfl, fy⟩ := hy
      obtain ⟨y, h1, h2⟩ := r.get hd
      cases (fy _ g').symm.trans h1
      exact ⟨F', Ex.refl _, hs', h2.mono e'⟩)
theorem wi_scr {tg : Expr} {ΦI : List D → Mu → Prop} (h : wE X e ρ μ fun d μ1 => ∃ ds, d = .scr ds ∧ ΦI ds μ1) : wI X tg e ρ μ ΦI := fun F σ H hs sl R kt =>
  si_of (pi_list pe_s) (h F σ H hs sl _ fun v F1 H1 d μ1 ⟨ds, hd, q⟩ e1 hs1 r1 => by
    subst hd
    cases r1 with
    | scr g r =>
      rename_i a xs
      refine ⟨a, rfl, ⟨xs, Evl.ex_l hs1.ex g⟩, kt _ ds F1 μ1 H1 q e1 hs1 fun i F' μ' H' e' hs' => ?_⟩
      have g' : SqL X.K H' a xs := Evl.ex_l hs'.ex (Evl.ex_l e' g)
      refine ⟨fun hi => ⟨xs, xs[i]'(by rw [r.length]; exact hi), g', List.getElem?_eq_getElem _⟩, fun hi => ⟨xs, g', by rw [r.length]; exact Nat.le_of_eq hi.symm⟩, fun x H2 d hy hd => ?_⟩
      obtain ⟨rfl, fy⟩ := hy
      obtain ⟨y, h1, h2⟩ := r.get hd
      cases (fy _ g').symm.trans h1
      exact ⟨F', Ex.refl _, hs', h2.mono e'⟩)
theorem wi_tup {tg : Expr} {ΦI : List D → Mu → Prop} (h : wE X e ρ μ fun d μ1 => ∃ ds, d = .tup ds ∧ ΦI ds μ1) : wI X tg e ρ μ ΦI := fun F σ H hs sl R kt =>
  si_of (pi_tup pe_s) (h F σ H hs sl _ fun v F1 H1 d μ1 ⟨ds, hd, q⟩ e1 hs1 r1 => by
    subst hd
    cases r1 with
    | tup g r =>
      rename_i a xs
      refine ⟨a, rfl, ⟨xs, (Evl.st_of (hs1.ex _ _ g))⟩, kt _ ds F1 μ1 H1 q e1 hs1 fun i F' μ' H' e' hs' => ?_⟩
      have g' : SqT X.K H' a xs := Evl.ex_t hs'.ex ((Evl.st_of (e' _ _ g)))
      refine ⟨fun hi => ⟨xs, xs[i]'(by rw [r.length]; exact hi), g', List.getElem?_eq_getElem _⟩, fun hi => ⟨xs, g', by rw [r.length]; exact Nat.le_of_eq hi.symm⟩, fun x H2 d hy hd => ?_⟩
      obtain ⟨rfl, fy⟩ := hy
      obtain ⟨y, h1, h2⟩ := r.get hd
      cases (fy _ g').symm.trans h1
      exact ⟨F', Ex.refl _, hs', h2.mono e'⟩)
/-- the numbers lo, lo + 1, .. -/
def rngD (lo : Int) (n : Nat) : List D := (List.range n).map fun i : Nat => D.int (lo + (i : Int))
theorem rngD_get {lo : Int} {n i : Nat} {d : D} (h : (rngD lo n)[i]? = some d) : i < n ∧ d = .int (lo + (i : Int)) := by
  unfold rngD at h
  rw [List.getElem?_map] at h
  by_cases hi : i < n
  · rw [List.getElem?_range hi] at h
    cases h
    exact ⟨hi, rfl⟩
  · rw [List.getElem?_eq_none (by rw [List.length_range]; omega)] at h
    cases h
theorem rngD_len {lo : Int} {n : Nat} : (rngD lo n).length = n := by unfold rngD; rw [List.length_map, List.length_range]
theorem wk_rng {K : KF} {F : Hp} {lo : Int} {n : Nat} : Wk K F (Itr lo n) (rngD lo n) := fun i F' μ' H' e' hs' => by
  rw [rngD_len]
  refine ⟨fun hi => hi, fun hi => Nat.le_of_eq hi.symm, fun x H2 d hy hd => ?_⟩
  obtain ⟨rfl, rfl⟩ := hy
  obtain ⟨_, rfl⟩ := rngD_get hd
  exact ⟨F', Ex.refl _, hs', .int _⟩
theorem wi_rng1 {tg : Expr} {ΦI : List D → Mu → Prop} (hm : X.mg "range" = none) (h : wE X a ρ μ fun d μ1 => ∃ j : Int, d = .int j ∧ (0 ≤ j ∧ j ≤ 100000000) ∧ ΦI (rngD 0 j.toNat) μ1) (hg : Gl X "range" := by rfl) (hs : starEach [a] X.env = [(false, eval a X.env)] := by rfl) : wI X tg (.Call (.Name "range" p) [a] [] pos) ρ μ ΦI := fun F σ H hh sl R kt =>
  si_of (pi_range1 hg hm (pa_cons pe_s pa_nil hs) hs) (h F σ H hh sl _ fun v F1 H1 d μ1 ⟨j, hd, hj, q⟩ e1 hs1 r1 => by
    subst hd
    cases r1
    exact ⟨j, rfl, by omega, by omega, kt _ _ F1 μ1 H1 q e1 hs1 wk_rng⟩)
theorem wi_rng2 {tg : Expr} {ΦI : List D → Mu → Prop} (hm : X.mg "range" = none) (h : wE X a ρ μ fun d μ1 => wE X b ρ μ1 fun d' μ2 => ∃ i j : Int, d = .int i ∧ d' = .int j ∧ (-100000000 ≤ i ∧ i ≤ 100000000 ∧ -100000000 ≤ j ∧ j ≤ 100000000) ∧ ΦI (rngD i (j - i).toNat) μ2) (hg : Gl X "range" := by rfl)
    (hs : starEach [a, b] X.env = [(false, eval a X.env), (false, eval b X.env)] := by rfl) (hs2 : starEach [b] X.env = [(false, eval b X.env)] := by rfl) : wI X tg (.Call (.Name "range" p) [a, b] [] pos) ρ μ ΦI := fun F σ H hh sl R kt =>
  si_of (pi_range2 hg hm (pa_cons pe_s (pa_cons pe_s pa_nil hs2) (by rw [hs, hs2])) hs hs2) (h F σ H hh sl _ fun v F1 H1 d μ1 q1 e1 hs1 r1 => q1 F1 σ H1 hs1 (sl.mono e1) _ fun u F2 H2 d' μ2 ⟨i, j, hd, hd', hb, q⟩ e2 hs2' r2 => by
    subst hd
    subst hd'
    cases r1
    cases r2
    exact ⟨i, j, rfl, ⟨by omega, by omega, by omega, by omega⟩, kt _ _ F2 μ2 H2 q (e1.trans e2) hs2' wk_rng⟩)
theorem wi_str {tg : Expr} {ΦI : List D → Mu → Prop} (h : wE X e ρ μ fun d μ1 => ∃ z : Str, d = .str z ∧ ΦI (z.cps.toList.map fun c => .str ⟨#[c]⟩) μ1) : wI X tg e ρ μ ΦI := fun F σ H hs sl R kt =>
  si_of (pi_str pe_s) (h F σ H hs sl _ fun v F1 H1 d μ1 ⟨z, hd, q⟩ e1 hs1 r1 => by
    subst hd
    cases r1
    refine ⟨z, rfl, kt _ _ F1 μ1 H1 q e1 hs1 fun i F' μ' H' e' hs' => ?_⟩
    rw [List.length_map, Array.length_toList]
    refine ⟨fun hi => hi, fun hi => Nat.le_of_eq hi.symm, fun x H2 d hy hd => ?_⟩
    obtain ⟨rfl, c, hc, rfl⟩ := hy
    rw [List.getElem?_map, Array.getElem?_toList, hc] at hd
    cases hd
    exact ⟨F', Ex.refl _, hs', .str _⟩)
/-! enumerate of a text -/
def Ites (x : Str) : It := ⟨fun i _ => i < x.cps.size, fun i H v H' => ∃ T c, x.cps[i]? = some c ∧ v = .ref T ∧ H T = none ∧ H' = upd H T (.tup [.int (i : Nat), .str ⟨#[c]⟩]), fun i _ => i = x.cps.size⟩
theorem turn_enumS {P : Program} {w : World} {K : PySem.W.Frag} {elts : List Expr} {kk : Nat} {tpos : Pos} (x : Str) (t : Tok) (e it : Addr) (hne : e ≠ it) :
    Turn P w K (.Tuple elts kk tpos) (Ites x) [e, it] e (fun i h => (∃ old, IsEnum h e it (0 + (i : Int)) old) ∧ h.IsStrIter it (strIterType x) x t i) where
  mem := by simp
  obj := fun i h st b hb => by
    obtain ⟨⟨old, he⟩, ⟨o, ho, hc, hd⟩⟩ := st
    rcases List.mem_cons.mp hb with z | z
    · subst z; exact ⟨_, he, fun v q => nomatch q⟩
    · rcases List.mem_cons.mp z with z | z
      · subst z; exact ⟨o, ho, fun v q => by rw [hd] at q; cases q⟩
      · cases z
  keep := fun i h h' st k => by
    obtain ⟨⟨old, he⟩, ⟨o, ho, r⟩⟩ := st
    exact ⟨⟨old, k e (by simp) _ he⟩, ⟨o, k it (by simp) o ho, r⟩⟩
  item := by
    intro Y hP hw hK hc i pins s σ H E I hf st hg
    subst hP hw hK
    have G := GoesN.enumFrom (prog := Y.prog) (w := Y.w) (A := Y.A) (elts := elts) (x1 := kk) (pos := tpos) 0 (Draws.text (A := Y.A.in1) (I.ok.hd hc) it x t) e hne (by simpa using hne) (by simp)
    refine G.goes i s _ E hg st fun v h' tk hY st' hk htk => ?_
    obtain ⟨T, t', u, rfl, hT, ⟨c, t'', hcx, rfl⟩, hv⟩ := hY
    have new : ObjOk Y.prog Y.w (upd H T (.tup [.int (i : Nat), .str ⟨#[c]⟩])) h' T (.tup [.int (i : Nat), .str ⟨#[c]⟩]) :=
      ⟨by show 2 ≤ sizeLine; decide, [.int (0 + (i : Int)) t', .str ⟨#[c]⟩ t''], .cons ⟨t', by rw [Int.zero_add]⟩ (.cons ⟨_, rfl⟩ .nil), hv⟩
    have I1 := I.turnedNew (t' := tk) (ch := [e, it]) hk hf hT new
    refine ⟨.ref T, _, I1, rfl, ⟨T, c, hcx, rfl, I.hok.fresh hT, rfl⟩, st', fun b hb => ?_⟩
    have hlt : b < s.heap.objs.size := by
      obtain ⟨⟨old, he⟩, ⟨o, ho, _⟩⟩ := st
      rcases List.mem_cons.mp hb with z | z
      · subst z; exact Heap.lt_size he
      · rcases List.mem_cons.mp z with z | z
        · subst z; exact Heap.lt_size ho
        · cases z
    rw [upd_ne (Nat.ne_of_lt (Nat.lt_of_lt_of_le hlt hT))]
    exact (hf b hb).1
  done := by
    intro Y hP hw hK hc i pins s σ H E I hf st hg
    subst hP hw hK
    have hg' : i = x.cps.size := hg
    subst hg'
    have G := GoesN.enumFrom (prog := Y.prog) (w := Y.w) (A := Y.A) (elts := elts) (x1 := kk) (pos := tpos) 0 (Draws.text (A := Y.A.in1) (I.ok.hd hc) it x t) e hne (by simpa using hne) (by simp)
    refine G.stops s _ E st fun h' tk hk htk => ?_
    exact I.turnedL hk hf
  self := fun A i s Q E st h => let ⟨⟨_, he⟩, _⟩ := st; wpAny_pyIter_enum he h
end
section
variable {X : Cy} {e a b c elt tg iter : Expr} {es ifs : List Expr} {st : Stmt} {sts us : List Stmt} {ρ : Rho} {μ : Mu} {Φ : D → Mu → Prop} {ΦT : Bool → Mu → Prop} {ΦA : List D → Mu → Prop} {ΦS : Rho → Mu → Prop} {E : En} {pos p : Pos}
def iEnumS (ta : TA) : TI := fun σ H R => ta σ H fun vs H1 => ∃ x, vs = [.str x] ∧ R (Ites x) H1
theorem pi_enumS {ta : TA} {tpos : Pos} {elts : List Expr} {kk : Nat} (hg : Gl X "enumerate") (hm : X.mg "enumerate" = none) (ha : PA X [e] ta) (hs : starEach [e] X.env = [(false, eval e X.env)] := by rfl) : PI X (.Tuple elts kk tpos) (.Call (.Name "enumerate" p) [e] [] pos) (iEnumS ta) := by
  refine ⟨fun pins s σ H R I h => ?_⟩
  refine PyProof.Rows.Call_ (ld_blt I hg hm PyProof.Rows.boot_enumerate (PyProof.Rows.callWith_type1 (thn (ha.run pos pins s σ H _ I h) fun us s1 hq => ?_) hs rfl))
  obtain ⟨vs, H1, I1, r1, x, rfl, q⟩ := hq
  cases r1 with
  | cons r rr =>
    cases rr
    obtain ⟨t, rfl⟩ := r
    refine call_enumerate_str fun h' he hit hsz hk => wpAny_pyIter_enum he ?_
    have I2 : Inv X pins σ H1 { s1 with heap := h' } := I1.kept (t' := s1.toks) hk
    refine ⟨s1.heap.objs.size + 1, [s1.heap.objs.size + 1, s1.heap.objs.size], _, _, H1, rfl, I2, turn_enumS x t (s1.heap.objs.size + 1) s1.heap.objs.size (Nat.succ_ne_self _), ⟨⟨.none, he⟩, hit⟩, fun b hb => ?_, q⟩
    have hle : s1.heap.objs.size ≤ b := by
      rcases List.mem_cons.mp hb with z | z
      · rw [z]; exact Nat.le_succ _
      · rcases List.mem_cons.mp z with z | z
        · rw [z]; exact Nat.le_refl _
        · cases z
    exact I1.fpOk hle (I1.hok.fresh hle)
/-- the pairs of a place and a sign -/
def enumS (z : Str) : List D := (List.range z.cps.size).map fun i : Nat => .tup [.int i, .str ⟨#[z.cps.getD i 0]⟩]
theorem enumS_get {z : Str} {i : Nat} {d : D} (h : (enumS z)[i]? = some d) : ∃ c, z.cps[i]? = some c ∧ d = .tup [.int i, .str ⟨#[c]⟩] := by
  unfold enumS at h
  rw [List.getElem?_map] at h
  by_cases hi : i < z.cps.size
  · rw [List.getElem?_range hi] at h
    cases h
    refine ⟨z.cps[i], Array.getElem?_eq_getElem hi, ?_⟩
    simp [hi]
  · rw [List.getElem?_eq_none (by rw [List.length_range]; omega)] at h
    cases h
theorem enumS_len {z : Str} : (enumS z).length = z.cps.size := by unfold enumS; rw [List.length_map, List.length_range]
theorem wi_enumS {tpos : Pos} {elts : List Expr} {kk : Nat} {ΦI : List D → Mu → Prop} (hm : X.mg "enumerate" = none) (h : wE X e ρ μ fun d μ1 => ∃ z : Str, d = .str z ∧ ΦI (enumS z) μ1) (hg : Gl X "enumerate" := by rfl) (hs : starEach [e] X.env = [(false, eval e X.env)] := by rfl) : wI X (.Tuple elts kk tpos) (.Call (.Name "enumerate" p) [e] [] pos) ρ μ ΦI := fun F σ H hh sl R kt =>
  si_of (pi_enumS hg hm (pa_cons pe_s pa_nil hs) hs) (h F σ H hh sl _ fun v F1 H1 d μ1 ⟨z, hd, q⟩ e1 hs1 r1 => by
    subst hd
    cases r1
    refine ⟨z, rfl, kt _ _ F1 μ1 H1 q e1 hs1 fun i F' μ' H' e' hs' => ?_⟩
    rw [enumS_len]
    refine ⟨fun hi => hi, fun hi => hi, fun x H2 d hy hd => ?_⟩
    · obtain ⟨T, c, hc, rfl, hT, rfl⟩ := hy
      obtain ⟨c', hc', rfl⟩ := enumS_get hd
      cases hc.symm.trans hc'
      obtain ⟨g1, g2⟩ := hs'.laid (u := .tup [.int (i : Nat), .str ⟨#[c]⟩]) hT
      exact ⟨_, g2, g1, .tup upd_same (.cons (.int _) (.cons (.str _) .nil))⟩)

/-! comprehensions -/
def wipeR (ρ : Rho) : List Nat → Rho
  | [] => ρ
  | v :: vs => (wipeR ρ vs).set v none
theorem Sl.wipeL {K : PySem.W.Frag} {F : Hp} {ρ : Rho} {σ : L2.St} (s : Sl K F ρ σ) : ∀ vs : List Nat, Sl K F (wipeR ρ vs) (L2.wipe σ vs)
  | [] => s
  | v :: vs => (s.wipeL vs).wipe v
theorem wipe_get {σ : L2.St} : ∀ (vs : List Nat) (k : Nat), (wipe σ vs)[k]? = if k ∈ vs then σ[k]?.map (fun _ => none) else σ[k]?
  | [], k => by simp [wipe]
  | v :: vs, k => by
    unfold wipe
    rw [List.getElem?_set]
    have ih := wipe_get (σ := σ) vs k
    by_cases hk : v = k
    · subst hk
      rw [if_pos rfl, if_pos List.mem_cons_self, wipe_length]
      by_cases hl : v < σ.length
      · rw [if_pos hl, List.getElem?_eq_getElem hl]; rfl
      · rw [if_neg hl, List.getElem?_eq_none (by omega)]; rfl
    · rw [if_neg hk, ih]
      have : (k ∈ v :: vs) = (k ∈ vs) := by simp [List.mem_cons, Ne.symm hk]
      simp [this]
theorem wipe_setw {σ σ1 : L2.St} {vs : List Nat} {j : Nat} {x : Option V} (h : j ∈ vs) (e : wipe σ1 vs = wipe σ vs) : wipe (σ1.set j x) vs = wipe σ vs := by
  rw [← e]
  apply List.ext_getElem?
  intro k
  rw [wipe_get, wipe_get, List.getElem?_set]
  by_cases hk : k ∈ vs
  · rw [if_pos hk, if_pos hk]
    by_cases hj : j = k
    · subst hj
      rw [if_pos rfl]
      by_cases hl : j < σ1.length
      · rw [if_pos hl, List.getElem?_eq_getElem hl]; rfl
      · rw [if_neg hl, List.getElem?_eq_none (by omega)]
    · rw [if_neg hj]
  · have hj : j ≠ k := fun z => hk (z ▸ h)
    rw [if_neg hk, if_neg hk, if_neg hj]
theorem wipe_idem {σ : L2.St} {vs : List Nat} : wipe (wipe σ vs) vs = wipe σ vs := by
  apply List.ext_getElem?
  intro k
  rw [wipe_get, wipe_get]
  by_cases hk : k ∈ vs
  · rw [if_pos hk, if_pos hk]; cases σ[k]? <;> rfl
  · rw [if_neg hk, if_neg hk]
/-- the tests of a clause -/
def wTs (X : Cy) (ifs : List Expr) (ρ : Rho) (μ : Mu) (ΦT : Bool → Mu → Prop) : Prop := match ifs with
  | [] => ΦT true μ
  | [c] => wT X c ρ μ ΦT
  | _ => False
def sTs (X : Cy) (ifs : List Expr) : TT := fun σ H Q => ∀ (pins : List (Addr × Obj)) (s : Shared), Inv X pins σ H s →
    wpAny (model X.prog X.w) X.A (forIn ifs true fun c r => if r = true then do let ok ← isTrue c X.env (eval c X.env); pure (ForInStep.yield ok) else pure (ForInStep.yield r)) (TP X pins σ Q) X.xe s
theorem pts_s {ifs : List Expr} : PTs X ifs (sTs X ifs) := ⟨fun pins s σ H Q I h => h pins s I⟩
theorem sts_of {t : TT} (p : PTs X ifs t) {σ : L2.St} {H : Hp} {Q : Bool → Hp → Prop} (h : t σ H Q) : sTs X ifs σ H Q := fun pins s I => p.run pins s σ H Q I h
theorem wTs.go (h : wTs X ifs ρ μ ΦT) {F : Hp} {σ : L2.St} {H : Hp} (hs : Hs X.K F μ H) (sl : Sl X.K F ρ σ) {Q : Bool → Hp → Prop} (kt : KontT X.K F ΦT Q) : sTs X ifs σ H Q := by
  match ifs, h with
  | [], h => exact sts_of pts_nil (kt true F H μ h (Ex.refl F) hs)
  | [c], h => exact sts_of (pts_one pt_s) (h F σ H hs sl Q kt)
/-- the targets of a comprehension: a name, or a tuple of names, by their places -/
inductive Tg where
  | one (j : Nat) | two (j k : Nat) | tree (j k l : Nat)
def Tg.slots : Tg → List Nat
  | .one j => [j]
  | .two j k => [j, k]
  | .tree j k l => [j, k, l]
def Tg.put : Tg → D → Rho → Option Rho
  | .one j, d, ρ => some (ρ.set j (some d))
  | .two j k, .tup [d, e], ρ => some ((ρ.set j (some d)).set k (some e))
  | .tree j k l, .tup [d, e, f], ρ => some (((ρ.set j (some d)).set k (some e)).set l (some f))
  | _, _, _ => none
def Tg.g (K : PySem.W.Frag) : Tg → TG
  | .one j => gName j
  | .two j k => gTup K 2 (gCons (gName j) (gCons (gName k) gNil))
  | .tree j k l => gTup K 3 (gCons (gName j) (gCons (gName k) (gCons (gName l) gNil)))
/-- the contexts of a block -/
abbrev blkE (X : Cy) (scope : Scope) (s : Shared) (H : Hp) (C : Addr) (cl : List (Str × Addr)) (fp : List Addr) : Cy := ⟨X.c.blk s H scope (compEnvC scope cl C X.env) fp, X.g⟩
theorem Tg.run {t : Tg} {K : KF} {F : Hp} {v : V} {d : D} {ρ ρ' : Rho} {σ : L2.St} {μ : Mu} {H : Hp} {vs : List Nat} {Q : L2.St → Hp → Prop} (hs : Hs K F μ H) (sl : Sl K F (wipeR ρ vs) (wipe σ vs)) (r : Rep K F v d) (hv : ∀ j ∈ t.slots, j ∈ vs) (hp : t.put d (wipeR ρ vs) = some ρ')
    (k : ∀ σ', wipe σ' vs = wipe σ vs → Sl K F ρ' σ' → Q σ' H) : t.g K v (wipe σ vs) H Q := by
  match t, d, hp with
  | .one j, d, hp =>
    cases hp
    exact k _ (wipe_setw (hv j (by simp [Tg.slots])) wipe_idem) (sl.set j r)
  | .two i j, .tup [d, e], hp =>
    cases hp
    cases r with
    | tup g r =>
      cases r with
      | cons r1 r =>
        cases r with
        | cons r2 r =>
          cases r
          exact ⟨_, _, rfl, (Evl.st_of (hs.ex _ _ g)), rfl, _, _, rfl, _, _, rfl, rfl, k _ (wipe_setw (hv j (by simp [Tg.slots])) (wipe_setw (hv i (by simp [Tg.slots])) wipe_idem)) ((sl.set i r1).set j r2)⟩
  | .tree i j l, .tup [d, e, f], hp =>
    cases hp
    cases r with
    | tup g r =>
      cases r with
      | cons r1 r =>
        cases r with
        | cons r2 r =>
          cases r with
          | cons r3 r =>
            cases r
            exact ⟨_, _, rfl, (Evl.st_of (hs.ex _ _ g)), rfl, _, _, rfl, _, _, rfl, _, _, rfl, rfl, k _ (wipe_setw (hv l (by simp [Tg.slots])) (wipe_setw (hv j (by simp [Tg.slots])) (wipe_setw (hv i (by simp [Tg.slots])) wipe_idem))) (((sl.set i r1).set j r2).set l r3)⟩
/-- [elt for tg in iter if ..]: Iv speaks of the turn, the list so far, the cells; the new list's cell p stands ahead of them -/
def LcW (X : Cy) (elt tg iter : Expr) (ifs : List Expr) (scope : Scope) (t : Tg) (vs : List Nat) (ρ : Rho) (μ : Mu) (Φ : D → Mu → Prop) : Prop :=
  wI X tg iter ρ μ fun its μ1 => its.length ≤ 1000000 ∧ ∃ Iv : Nat → List D → Mu → Prop, Iv 0 [] μ1 ∧
    (∀ p i x acc μ2, its[i]? = some x → Iv i acc μ2 → ∃ ρ', t.put x (wipeR ρ vs) = some ρ' ∧ ∀ s H C cl fp, wTs (blkE X scope s H C cl fp) ifs ρ' ((p, .lst acc) :: μ2) fun k μ4 =>
      (k = true → ∀ s H C cl fp, wE (blkE X scope s H C cl fp) elt ρ' μ4 fun d μ5 => ∃ μ6, μ5 = (p, .lst acc) :: μ6 ∧ Iv (i + 1) (acc ++ [d]) μ6) ∧ (k = false → ∃ μ6, μ4 = (p, .lst acc) :: μ6 ∧ Iv (i + 1) acc μ6)) ∧
    (∀ p acc μ2, Iv its.length acc μ2 → Φ (.ptr p) ((p, .lst acc) :: μ2))
def sTsF (X : Cy) (scope : Scope) (ifs : List Expr) : TT := fun σ H Q => ∀ s H' C cl fp, sTs (blkE X scope s H' C cl fp) ifs σ H Q
def sEF (X : Cy) (scope : Scope) (elt : Expr) : TE := fun σ H Q => ∀ s H' C cl fp, sE (blkE X scope s H' C cl fp) elt σ H Q
theorem lc_t {scope : Scope} {t : Tg} {vs : List Nat} (hv : ∀ j ∈ t.slots, j ∈ vs) (h : LcW X elt tg iter ifs scope t vs ρ μ Φ) {F : Hp} {σ : L2.St} {H : Hp} (hs : Hs X.K F μ H) (sl : Sl X.K F ρ σ) {Q : VK} (kt : Kont X.K F Φ Q) :
    tLc (sI X tg iter) (t.g X.K) (sTsF X scope ifs) (sEF X scope elt) vs σ H Q := by
  refine h F σ H hs sl _ fun J its F1 μ1 H1 ⟨hz, Iv, h0, ht, hd⟩ e1 hs1 wk Dl hD => ?_
  refine ⟨fun i m H' => m = its.length - i ∧ i ≤ its.length ∧ ∃ F' acc μ', Ex F1 F' ∧ Hs X.K F' ((Dl, .lst acc) :: μ') H' ∧ acc.length ≤ i ∧ Iv i acc μ', ⟨its.length, by simp, Nat.zero_le _, F1, [], μ1, Ex.refl _, hs1.cell hD (.lst .nil), Nat.le_refl _, h0⟩, ?_⟩
  rintro i m H' ⟨rfl, hi, F', acc, μ', e2, hs2, hl, iv⟩
  obtain ⟨w1, w2, w3⟩ := wk i F' _ H' e2 hs2
  by_cases hlt : i < its.length
  · refine .inr ⟨w1 hlt, fun H3 => ∃ F3 acc3 μ3, Ex F1 F3 ∧ Hs X.K F3 ((Dl, .lst acc3) :: μ3) H3 ∧ acc3.length ≤ i + 1 ∧ Iv (i + 1) acc3 μ3, fun H3 q => ⟨its.length - (i + 1), by omega, rfl, hlt, q⟩, fun x H3 hy => ?_⟩
    have hx : its[i]? = some its[i] := List.getElem?_eq_getElem hlt
    obtain ⟨F3, e3, hs3, r3⟩ := w3 x H3 _ hy hx
    obtain ⟨ρ', hp, ht⟩ := ht Dl i _ acc μ' hx iv
    refine Tg.run hs3 ((sl.mono (e1.trans (e2.trans e3))).wipeL vs) r3 hv hp fun σ' hw sl' => ⟨hw, fun s' H' C cl fp => ?_⟩
    refine (ht s' H' C cl fp).go hs3 sl' fun k F4 H4 μ4 q4 e4 hs4 => ?_
    cases k with
    | true =>
      rw [if_pos rfl]
      refine fun s' H' C cl fp => q4.1 rfl s' H' C cl fp F4 σ' H4 hs4 (sl'.mono e4) _ fun v F5 H5 d μ5 ⟨μ6, h6, iv6⟩ e5 hs5 r5 => ?_
      subst h6
      obtain ⟨xs, hx5, rx5⟩ := hs5.lst (i := 0) rfl
      refine ⟨xs, hx5, Nat.lt_of_le_of_lt ?_ (show 1000000 < sizeLine by decide), F5, acc ++ [d], μ6, e2.trans (e3.trans (e4.trans e5)), hs5.write (i := 0) rfl (.lst (rx5.append (.one r5))), ?_, iv6⟩
      · rw [rx5.length]
        omega
      · rw [List.length_append]
        exact Nat.succ_le_succ hl
    | false =>
      rw [if_neg Bool.false_ne_true]
      obtain ⟨μ6, h6, iv6⟩ := q4.2 rfl
      subst h6
      exact ⟨F4, acc, μ6, e2.trans (e3.trans e4), hs4, Nat.le_succ_of_le hl, iv6⟩
  · have he : i = its.length := by omega
    subst he
    exact .inl ⟨w2 rfl, kt _ F' H' _ _ (hd Dl acc μ' iv) (e1.trans e2) hs2 (.ptr Dl)⟩
theorem w_lcM {scope : Scope} {own : List (Str × Nat)} (t : Tg) (hv : ∀ j ∈ t.slots, j ∈ own.map (·.2)) (hc : X.calm = true) (hN : X.N.Nodup) (ok : BlkOk X.N X.env.scope scope own)
    (hg : ∀ s H C cl fp, PG (blkE X scope s H C cl fp) tg (t.g X.K)) (h : LcW X elt tg iter ifs scope t (own.map (·.2)) ρ μ Φ) (hs : ∀ x, foldedSetIterable iter X.env x = pure x := by intro _; rfl) :
    wE X (.ListComp elt [⟨tg, iter, ifs, 0⟩] scope pos) ρ μ Φ := fun F σ H hh sl Q kt =>
  se_of (pe_lc hc hN pi_s ok hg (fun s H C cl fp => ⟨fun pins s' σ H Q I q => q s _ C cl fp pins s' I⟩) (fun s H C cl fp => ⟨fun pins s' σ H Q I q => q s _ C cl fp pins s' I⟩) hs) (lc_t hv h hh sl kt)
theorem w_setLc {scope : Scope} {own : List (Str × Nat)} (i : Nat) {y : Str} {py spos : Pos} (t : Tg) (hv : ∀ j ∈ t.slots, j ∈ own.map (·.2)) (hc : X.calm = true) (hN : X.N.Nodup) (hy : X.N[i]? = some y) (hyl : X.env.scope.names.lookup y = some .local) (ok : BlkOk X.N X.env.scope scope own)
    (hsw : swapsWith (.ListComp elt [⟨tg, iter, ifs, 0⟩] scope pos) (some (.Name y py)) spos.line X.env = pure true)
    (hg : ∀ s H C cl fp, PG (blkE X scope s H C cl fp) tg (t.g X.K)) (h : LcW X elt tg iter ifs scope t (own.map (·.2)) ρ μ fun d μ1 => ∃ p acc μ2, d = .ptr p ∧ μ1 = (p, .lst acc) :: μ2 ∧ (E.nx (ρ.set i (some (.lst acc))) μ2 ∨ E.nx (ρ.set i (some (.ptr p))) ((p, .lst acc) :: μ2)))
    (hs : ∀ x, foldedSetIterable iter X.env x = pure x := by intro _; rfl) :
    wS X (.Assign [.Name y py] (.ListComp elt [⟨tg, iter, ifs, 0⟩] scope pos) spos) ρ μ E := fun F σ H hh sl D kt =>
  ss_of (ps_setLc hc hN hy hyl hsw pi_s ok hg (fun s H C cl fp => ⟨fun pins s' σ H Q I q => q s _ C cl fp pins s' I⟩) (fun s H C cl fp => ⟨fun pins s' σ H Q I q => q s _ C cl fp pins s' I⟩) hs)
    (lc_t hv h hh sl (Q := fun x H1 => gName i x σ H1 D.nx) fun v F1 H1 d μ1 ⟨p, acc, μ2, hd, hm, q⟩ e1 hs1 r1 => by
      subst hd
      subst hm
      cases r1
      rcases q with q | q
      · obtain ⟨F2, e2, hs2, r2⟩ := hs1.freeze (i := 0) rfl
        exact kt.nx F2 H1 _ _ _ q (e1.trans e2) hs2 ((sl.mono (e1.trans e2)).set i r2)
      · exact kt.nx F1 H1 _ _ _ q e1 hs1 ((sl.mono e1).set i (.ptr p)))

/-! a def keeps its promise -/
end
section
variable {P : Program} {w : World} {K : PySem.W.Frag} {mg : Str → Option Value} {base : Heap}
def rho (N : List Str) (ds : List D) : Rho := ds.map some ++ List.replicate (N.length - ds.length) none
theorem sl_start {F : Hp} {N : List Str} {vs : List V} {ds : List D} (r : Reps K F vs ds) : Sl K F (rho N ds) (L2.start N vs) := by
  have hl := r.length
  refine ⟨?_, fun i d h => ?_⟩
  · unfold rho L2.start
    rw [List.length_append, List.length_append, List.length_map, List.length_map, List.length_replicate, List.length_replicate, hl]
  · unfold rho at h
    by_cases hi : i < ds.length
    · rw [List.getElem?_append_left (by rw [List.length_map]; exact hi), List.getElem?_map] at h
      cases e : ds[i]? with
      | none => rw [e] at h; cases h
      | some x =>
        rw [e] at h
        cases h
        obtain ⟨v, h1, h2⟩ := r.get e
        refine ⟨v, ?_, h2⟩
        unfold L2.start
        rw [List.getElem?_append_left (by rw [List.length_map, hl]; exact hi), List.getElem?_map, h1]
        rfl
    · rw [List.getElem?_append_right (by rw [List.length_map]; omega), List.getElem?_replicate] at h
      split at h <;> cases h
end
end Oc

/-! Own layer, part 3: operations. -/
namespace Oc
open PySem PySem.Spec L2
open Evl (Ex)
theorem Kont.now {K : KF} {F : Hp} {Φ : D → Mu → Prop} {Q : VK} (kt : Kont K F Φ Q) {v : V} {H : Hp} {d : D} {μ : Mu} (k : Φ d μ) (hs : Hs K F μ H) (r : Rep K F v d) : Q v H := kt v F H d μ k (Ex.refl F) hs r
/-- flat data -/
def D.fl : D → Option V
  | .non => some .non
  | .bl b => some (.bl b)
  | .int i => some (.int i)
  | .str x => some (.str x)
  | _ => none
theorem rep_fl {K : PySem.W.Frag} {F : Hp} {v w : V} {d : D} (r : Rep K F v d) (h : d.fl = some w) : v = w := by
  cases r <;> first | (cases h; rfl) | cases h
def D.fls : List D → Option (List V)
  | [] => some []
  | d :: ds => match d.fl, D.fls ds with
    | some v, some vs => some (v :: vs)
    | _, _ => none
theorem rep_fls {K : PySem.W.Frag} {F : Hp} : ∀ {ds : List D} {vs ws : List V}, Reps K F vs ds → D.fls ds = some ws → vs = ws
  | [], _, _, .nil, h => by cases h; rfl
  | d :: ds, _, ws, .cons r rr, h => by
    unfold D.fls at h
    split at h
    · rename_i v vs h1 h2
      cases h
      rw [rep_fl r h1, rep_fls rr h2]
    · cases h
theorem fl_flat {d : D} {v : V} (h : d.fl = some v) : flatV v = true := by
  cases d <;> first | (cases h; rfl) | cases h
theorem fls_flat : ∀ {ds : List D} {vs : List V}, D.fls ds = some vs → vs.all flatV = true
  | [], _, h => by cases h; rfl
  | d :: ds, ws, h => by
    unfold D.fls at h
    split at h
    · rename_i v vs h1 h2
      cases h
      rw [List.all_cons, fl_flat h1, fls_flat h2]
      rfl
    · cases h
theorem fls_ints : ∀ ns : List Int, D.fls (ns.map D.int) = some (ns.map V.int)
  | [] => rfl
  | n :: ns => by
    show (match D.fl (.int n), D.fls (ns.map D.int) with | some v, some vs => some (v :: vs) | _, _ => none) = _
    rw [fls_ints ns]
    rfl
theorem fls_strs : ∀ ns : List Str, D.fls (ns.map D.str) = some (ns.map V.str)
  | [] => rfl
  | n :: ns => by
    show (match D.fl (.str n), D.fls (ns.map D.str) with | some v, some vs => some (v :: vs) | _, _ => none) = _
    rw [fls_strs ns]
    rfl
section
variable {X : Cy} {e a b c o : Expr} {es : List Expr} {ρ : Rho} {μ : Mu} {Φ : D → Mu → Prop} {d d1 d2 : D} {i j : Int} {x y : Str} {pos p : Pos} {f : Value → Value → Sem Value} {r : R2}
theorem wop_of (ho : OpR X f r) (h : ∀ F H x y, Hs X.K F μ H → Rep X.K F x d1 → Rep X.K F y d2 → ∀ Q, Kont X.K F Φ Q → r x y H Q) : wOp X f d1 d2 μ Φ := fun F H x y hs r1 r2 Q kt pins s σ v u I rv ru => ho pins s σ H x y v u Q I rv ru (h F H x y hs r1 r2 Q kt)
theorem wopI {C : Int → Int → Prop} {g : Int → Int → V} {d : D} (ho : OpR X f (rI C g)) (hc : C i j) (hg : ∀ K F, Rep K F (g i j) d) (k : Φ d μ) : wOp X f (.int i) (.int j) μ Φ := wop_of ho fun F H x y hs r1 r2 Q kt => by
  cases r1; cases r2
  exact ⟨i, j, rfl, rfl, hc, kt.now k hs (hg _ _)⟩
theorem wopI0 {g : Int → Int → V} {d : D} (ho : OpR X f (rI0 g)) (hg : ∀ K F, Rep K F (g i j) d) (k : Φ d μ) : wOp X f (.int i) (.int j) μ Φ := wop_of ho fun F H x y hs r1 r2 Q kt => by
  cases r1; cases r2
  exact ⟨i, j, rfl, rfl, kt.now k hs (hg _ _)⟩
theorem o_add (k : Φ (.int (i + j)) μ) : wOp X (binaryOp .Add) (.int i) (.int j) μ Φ := wopI0 op_add (fun _ _ => .int _) k
theorem o_sub (k : Φ (.int (i - j)) μ) : wOp X (binaryOp .Sub) (.int i) (.int j) μ Φ := wopI0 op_sub (fun _ _ => .int _) k
theorem o_mul (hc : (-(2 ^ 64) < i ∧ i < 2 ^ 64) ∨ (-(2 ^ 64) < j ∧ j < 2 ^ 64)) (k : Φ (.int (i * j)) μ) : wOp X (binaryOp .Mult) (.int i) (.int j) μ Φ := wopI op_mul hc (fun _ _ => .int _) k
theorem o_mod (hc : 0 < j) (k : Φ (.int (i % j)) μ) : wOp X (binaryOp .Mod) (.int i) (.int j) μ Φ := wopI op_mod hc (fun _ _ => .int _) k
theorem o_div (hc : 0 < j ∧ j < 1073741824) (k : Φ (.int (i / j)) μ) : wOp X (binaryOp .FloorDiv) (.int i) (.int j) μ Φ := wopI op_fdiv hc (fun _ _ => .int _) k
theorem o_pow (hc : 0 ≤ j ∧ j ≤ 1000000 ∧ i.natAbs < 2 ^ 64) (k : Φ (.int (i ^ j.toNat)) μ) : wOp X (binaryOp .Pow) (.int i) (.int j) μ Φ := wopI op_pow hc (fun _ _ => .int _) k
theorem o_shl (hc : 0 ≤ j ∧ j ≤ 1000000 ∧ i.natAbs < 2 ^ 64) (k : Φ (.int (i * 2 ^ j.toNat)) μ) : wOp X (binaryOp .LShift) (.int i) (.int j) μ Φ := wopI op_shl hc (fun _ _ => .int _) k
theorem o_shr (hc : 0 ≤ j) (k : Φ (.int (i / 2 ^ j.toNat)) μ) : wOp X (binaryOp .RShift) (.int i) (.int j) μ Φ := wopI op_shr hc (fun _ _ => .int _) k
theorem o_band (k : Φ (.int (Builtin.bitAnd i j)) μ) : wOp X (binaryOp .BitAnd) (.int i) (.int j) μ Φ := wopI0 op_and (fun _ _ => .int _) k
theorem o_bor (k : Φ (.int (Builtin.bitOr i j)) μ) : wOp X (binaryOp .BitOr) (.int i) (.int j) μ Φ := wopI0 op_or (fun _ _ => .int _) k
theorem o_bxor (k : Φ (.int (Builtin.bitXor i j)) μ) : wOp X (binaryOp .BitXor) (.int i) (.int j) μ Φ := wopI0 op_xor (fun _ _ => .int _) k
theorem o_addS (hc : x.length + y.length ≤ sizeLine) (k : Φ (.str (x ++ y)) μ) : wOp X (binaryOp .Add) (.str x) (.str y) μ Φ := wop_of op_add_str fun F H _ _ hs r1 r2 Q kt => by
  cases r1; cases r2
  exact ⟨x, y, rfl, rfl, hc, kt.now k hs (.str _)⟩
theorem o_addT {xs ys : List D} (hc : xs.length + ys.length ≤ 1000000) (k : Φ (.tup (xs ++ ys)) μ) : wOp X (binaryOp .Add) (.tup xs) (.tup ys) μ Φ := wop_of op_catA fun F H _ _ hs r1 r2 Q kt => by
  cases r1 with
  | tup g1 q1 =>
    cases r2 with
    | tup g2 q2 =>
      have l1 := q1.length
      have l2 := q2.length
      refine ⟨_, _, _, _, rfl, rfl, (Evl.st_of (hs.ex _ _ g1)), (Evl.st_of (hs.ex _ _ g2)), Nat.le_trans (by omega) (show 1000000 ≤ sizeLine by decide), fun h => ?_, fun h1 h2 => ?_, fun h1 h2 p hp => ?_⟩
      · subst h
        cases q1
        exact kt.now k hs (.tup g2 q2)
      · subst h2
        cases q2
        rw [List.append_nil] at k
        exact kt.now k hs (.tup g1 q1)
      · obtain ⟨s1, s2⟩ := hs.laid (u := .tup _) hp
        exact kt _ _ _ _ _ k s2 s1 (.tup upd_same ((q1.append q2).mono s2))
/-- two lists that stand still -/
theorem o_addL {xs ys : List D} (hc : xs.length + ys.length ≤ 1000000) (k : Φ (.lst (xs ++ ys)) μ) : wOp X (binaryOp .Add) (.lst xs) (.lst ys) μ Φ := wop_of op_cat fun F H _ _ hs r1 r2 Q kt => by
  cases r1 with
  | lst g1 q1 =>
    cases r2 with
    | lst g2 q2 =>
      have l1 := q1.length
      have l2 := q2.length
      refine ⟨_, _, _, _, rfl, rfl, hs.ex _ _ g1, hs.ex _ _ g2, Nat.le_trans (by omega) (show 1000000 ≤ sizeLine by decide), fun p hp => ?_⟩
      obtain ⟨s1, s2⟩ := hs.laid (u := .lst _) hp
      exact kt _ _ _ _ _ k s2 s1 (.lst upd_same ((q1.append q2).mono s2))
/-! comparisons -/
theorem o_lt (k : Φ (.bl (decide (i < j))) μ) : wOp X (compareOp .Lt) (.int i) (.int j) μ Φ := wopI0 op_lt (fun _ _ => .bl _) k
theorem o_le (k : Φ (.bl (decide (i ≤ j))) μ) : wOp X (compareOp .LtE) (.int i) (.int j) μ Φ := wopI0 op_le (fun _ _ => .bl _) k
theorem o_gt (k : Φ (.bl (decide (j < i))) μ) : wOp X (compareOp .Gt) (.int i) (.int j) μ Φ := wopI0 op_gt (fun _ _ => .bl _) k
theorem o_ge (k : Φ (.bl (decide (j ≤ i))) μ) : wOp X (compareOp .GtE) (.int i) (.int j) μ Φ := wopI0 op_ge (fun _ _ => .bl _) k
/-- == of flat data -/
def D.eqf : D → D → Bool
  | .non, .non => true
  | .bl a, .bl b => a == b
  | .int a, .int b => a == b
  | .str a, .str b => a == b
  | _, _ => false
def D.scal : D → D → Bool
  | .non, .non => true | .non, .int _ => true | .int _, .non => true | .non, .bl _ => true | .bl _, .non => true | .non, .str _ => true | .str _, .non => true
  | .int _, .int _ => true | .bl _, .bl _ => true | .str _, .str _ => true
  | .int _, .str _ => true | .str _, .int _ => true | .bl _, .str _ => true | .str _, .bl _ => true
  | _, _ => false
theorem scal_eq {K : PySem.W.Frag} {F : Hp} {u v : V} (r1 : Rep K F u d1) (r2 : Rep K F v d2) (h : D.scal d1 d2 = true) : scal u v = true ∧ decide (u = v) = D.eqf d1 d2 := by
  cases r1 <;> cases r2 <;> first
    | (refine ⟨by rfl, ?_⟩; simp [D.eqf]; done)
    | (refine ⟨by rfl, ?_⟩; rw [Bool.eq_iff_iff]; simp [D.eqf]; done)
    | (exfalso; simp [D.scal] at h; done)
theorem o_eq (h : D.scal d1 d2 = true) (k : Φ (.bl (D.eqf d1 d2)) μ) : wOp X (compareOp .Eq) d1 d2 μ Φ := wop_of op_eq fun F H u v hs r1 r2 Q kt => by
  obtain ⟨h1, h2⟩ := scal_eq r1 r2 h
  refine ⟨h1, ?_⟩
  rw [h2]
  exact kt.now k hs (.bl _)
theorem o_ne (h : D.scal d1 d2 = true) (k : Φ (.bl (!D.eqf d1 d2)) μ) : wOp X (compareOp .NotEq) d1 d2 μ Φ := wop_of op_ne fun F H u v hs r1 r2 Q kt => by
  obtain ⟨h1, h2⟩ := scal_eq r1 r2 h
  refine ⟨h1, ?_⟩
  rw [h2]
  exact kt.now k hs (.bl _)
def D.isN : D → Bool
  | .non => true
  | _ => false
theorem isN_eq {K : PySem.W.Frag} {F : Hp} {u : V} (r1 : Rep K F u d) : decide (u = V.non) = D.isN d := by
  cases r1 <;> simp [D.isN]
theorem o_isN (k : Φ (.bl (D.isN d)) μ) : wOp X (compareOp .Is) d .non μ Φ := wop_of op_isN fun F H u v hs r1 r2 Q kt => by
  cases r2
  refine ⟨rfl, ?_⟩
  rw [isN_eq r1]
  exact kt.now k hs (.bl _)
theorem o_notN (k : Φ (.bl (!D.isN d)) μ) : wOp X (compareOp .IsNot) d .non μ Φ := wop_of op_notN fun F H u v hs r1 r2 Q kt => by
  cases r2
  refine ⟨rfl, ?_⟩
  rw [isN_eq r1]
  exact kt.now k hs (.bl _)
/-- in a tuple or a list of flat things -/
theorem o_in {w : V} {ds : List D} {ws : List V} (hd : d2 = .tup ds ∨ d2 = .lst ds ∨ d2 = .scr ds) (h1 : d.fl = some w) (h2 : D.fls ds = some ws) (k : Φ (.bl (inV w ws)) μ) : wOp X (compareOp .In) d d2 μ Φ := wop_of op_in_seq fun F H u v hs r1 r2 Q kt => by
  have e1 := rep_fl r1 h1
  subst e1
  rcases hd with rfl | rfl | rfl
  · cases r2 with
    | tup g q =>
      have e2 := rep_fls q h2
      subst e2
      exact ⟨_, _, rfl, .inr ((Evl.st_of (hs.ex _ _ g))), fl_flat h1, fls_flat h2, kt.now k hs (.bl _)⟩
  · cases r2 with
    | lst g q =>
      have e2 := rep_fls q h2
      subst e2
      exact ⟨_, _, rfl, .inl (Evl.ex_l hs.ex (Evl.sq_of g)), fl_flat h1, fls_flat h2, kt.now k hs (.bl _)⟩
  · cases r2 with
    | scr g q =>
      have e2 := rep_fls q h2
      subst e2
      exact ⟨_, _, rfl, .inl (Evl.ex_l hs.ex g), fl_flat h1, fls_flat h2, kt.now k hs (.bl _)⟩
theorem o_nin {w : V} {ds : List D} {ws : List V} (hd : d2 = .tup ds ∨ d2 = .lst ds ∨ d2 = .scr ds) (h1 : d.fl = some w) (h2 : D.fls ds = some ws) (k : Φ (.bl (!inV w ws)) μ) : wOp X (compareOp .NotIn) d d2 μ Φ := wop_of op_notIn_seq fun F H u v hs r1 r2 Q kt => by
  have e1 := rep_fl r1 h1
  subst e1
  rcases hd with rfl | rfl | rfl
  · cases r2 with
    | tup g q =>
      have e2 := rep_fls q h2
      subst e2
      exact ⟨_, _, rfl, .inr ((Evl.st_of (hs.ex _ _ g))), fl_flat h1, fls_flat h2, kt.now k hs (.bl _)⟩
  · cases r2 with
    | lst g q =>
      have e2 := rep_fls q h2
      subst e2
      exact ⟨_, _, rfl, .inl (Evl.ex_l hs.ex (Evl.sq_of g)), fl_flat h1, fls_flat h2, kt.now k hs (.bl _)⟩
  · cases r2 with
    | scr g q =>
      have e2 := rep_fls q h2
      subst e2
      exact ⟨_, _, rfl, .inl (Evl.ex_l hs.ex g), fl_flat h1, fls_flat h2, kt.now k hs (.bl _)⟩
/-! == at any depth -/
mutual
def D.py : D → PyData
  | .non => .none
  | .bl b => .bool b
  | .int i => .int i
  | .str x => .str x
  | .tup l => .tuple (D.pys l)
  | .tpl l => .tuple (D.pys l)
  | .lst l => .list (D.pys l)
  | .scr l => .list (D.pys l)
  | _ => .none
def D.pys : List D → List PyData
  | [] => []
  | d :: ds => D.py d :: D.pys ds
end
mutual
/-- nothing in it that may change -/
def D.still : D → Bool
  | .tup l => D.stills l
  | .tpl l => D.stills l
  | .lst l => D.stills l
  | .scr l => D.stills l
  | .ptr _ => false
  | .ty _ => false
  | .dct _ _ => false
  | _ => true
def D.stills : List D → Bool
  | [] => true
  | d :: ds => D.still d && D.stills ds
end
mutual
theorem rep_py {K : PySem.W.Frag} {F H : Hp} (e : Ex F H) : ∀ {d : D} {v : V}, Rep K F v d → D.still d = true → Dp K H v (D.py d)
  | _, _, .non, _ => .non
  | _, _, .bl b, _ => .bl b
  | _, _, .int i, _ => .int i
  | _, _, .str x, _ => .str x
  | _, _, .tup (ds := ds) g r, h => .tup ((Evl.st_of (e _ _ g))) (reps_py e r (by simpa [D.still] using h))
  | _, _, .tpl (ds := ds) g _ _ r, h => .tup (.inl (.inr ⟨_, e _ _ g⟩)) (reps_py e r (by simpa [D.still] using h))
  | _, _, .lst (ds := ds) g r, h => .lst (Evl.sq_of (e _ _ g)) (reps_py e r (by simpa [D.still] using h))
  | _, _, .scr (ds := ds) g r, h => .lst (Evl.ex_l e g) (reps_py e r (by simpa [D.still] using h))
  | _, _, .ptr a, h => absurd h (by simp [D.still])
  | _, _, .ty a, h => absurd h (by simp [D.still])
  | _, _, .dct _ _ _, h => absurd h (by simp [D.still])
theorem reps_py {K : PySem.W.Frag} {F H : Hp} (e : Ex F H) : ∀ {d : List D} {v : List V}, Reps K F v d → D.stills d = true → DpAll K H v (D.pys d)
  | _, _, .nil, _ => .nil
  | _, _, .cons r rr, h => by
    rw [D.stills, Bool.and_eq_true] at h
    exact .cons (rep_py e r h.1) (reps_py e rr h.2)
end
theorem o_eqD (hu : X.c.A.units + 64 < cLine) (h1 : D.still d1 = true) (h2 : D.still d2 = true) (s1 : SeqAt.shaped d1.py = true) (s2 : SeqAt.shaped d2.py = true) (k : Φ (.bl (PyData.eqv d1.py d2.py)) μ) : wOp X (compareOp .Eq) d1 d2 μ Φ := wop_of (op_eqD hu) fun F H u v hs r1 r2 Q kt =>
  ⟨_, _, rep_py hs.ex r1 h1, rep_py hs.ex r2 h2, s1, s2, kt.now k hs (.bl _)⟩
theorem o_neD (hu : X.c.A.units + 64 < cLine) (h1 : D.still d1 = true) (h2 : D.still d2 = true) (s1 : SeqAt.shaped d1.py = true) (s2 : SeqAt.shaped d2.py = true) (k : Φ (.bl (!PyData.eqv d1.py d2.py)) μ) : wOp X (compareOp .NotEq) d1 d2 μ Φ := wop_of (op_neD hu) fun F H u v hs r1 r2 Q kt =>
  ⟨_, _, rep_py hs.ex r1 h1, rep_py hs.ex r2 h2, s1, s2, kt.now k hs (.bl _)⟩
/-! subscripts -/
theorem wix_of {r : R2} (ho : IxR X r) (h : ∀ F H x y, Hs X.K F μ H → Rep X.K F x d1 → Rep X.K F y d2 → ∀ Q, Kont X.K F Φ Q → r x y H Q) : wIx X d1 d2 μ Φ := fun F H x y hs r1 r2 Q kt value slice pins s σ v u I rv ru z => ho value slice pins s σ H x y v u Q I rv ru (h F H x y hs r1 r2 Q kt) z
theorem ix_tupD {ds : List D} (n : Nat) (hn : i = (n : Int)) (hd : ds[n]? = some d) (k : Φ d μ) : wIx X (.tup ds) (.int i) μ Φ := wix_of ix_tup fun F H x y hs r1 r2 Q kt => by
  subst hn
  cases r2
  cases r1 with
  | tup g q =>
    obtain ⟨v, h1, h2⟩ := q.get hd
    exact ⟨_, _, _, v, rfl, rfl, (Evl.st_of (hs.ex _ _ g)), atI_nat h1, kt.now k hs h2⟩
theorem ix_lstD {ds : List D} (n : Nat) (hn : i = (n : Int)) (hd : ds[n]? = some d) (k : Φ d μ) : wIx X (.lst ds) (.int i) μ Φ := wix_of ix_list fun F H x y hs r1 r2 Q kt => by
  subst hn
  cases r2
  cases r1 with
  | lst g q =>
    obtain ⟨v, h1, h2⟩ := q.get hd
    exact ⟨_, _, _, v, rfl, rfl, Evl.sq_of (hs.ex _ _ g), atI_nat h1, kt.now k hs h2⟩
theorem ix_scrD {ds : List D} (n : Nat) (hn : i = (n : Int)) (hd : ds[n]? = some d) (k : Φ d μ) : wIx X (.scr ds) (.int i) μ Φ := wix_of ix_list fun F H x y hs r1 r2 Q kt => by
  subst hn
  cases r2
  cases r1 with
  | scr g q =>
    obtain ⟨v, h1, h2⟩ := q.get hd
    exact ⟨_, _, _, v, rfl, rfl, Evl.ex_l hs.ex g, atI_nat h1, kt.now k hs h2⟩
theorem ix_ptrD {q : Addr} {ds : List D} (m : Nat) (hm : μ[m]? = some (q, .lst ds)) (n : Nat) (hn : i = (n : Int)) (hd : ds[n]? = some d) (k : Φ d μ) : wIx X (.ptr q) (.int i) μ Φ := wix_of ix_list fun F H x y hs r1 r2 Q kt => by
  subst hn
  cases r2
  cases r1
  obtain ⟨xs, g, r⟩ := hs.lst hm
  obtain ⟨v, h1, h2⟩ := r.get hd
  exact ⟨_, _, _, v, rfl, rfl, Evl.sq_of g, atI_nat h1, kt.now k hs h2⟩
theorem ix_strD (n : Nat) (hn : i = (n : Int)) {c : Nat} (hz : x.length ≤ sizeLine) (hd : x.cps.toList[n]? = some c) (k : Φ (.str ⟨#[c]⟩) μ) : wIx X (.str x) (.int i) μ Φ := wix_of ix_str fun F H _ _ hs r1 r2 Q kt => by
  subst hn
  cases r2
  cases r1
  exact ⟨_, _, c, rfl, rfl, hz, atI_nat hd, kt.now k hs (.str _)⟩
/-! built-in functions -/
theorem wcl_of {g : Value} {r : List V → Hp → VK → Prop} {ds : List D} (ho : CallR X g r) (h : ∀ F H xs, Hs X.K F μ H → Reps X.K F xs ds → ∀ Q, Kont X.K F Φ Q → r xs H Q) : wCl X g ds μ Φ := fun F H xs hs r1 Q kt pins s σ us I rv => ho pins s σ H xs us Q I rv (h F H xs hs r1 Q kt)
theorem c_abs (k : Φ (.int (if i < 0 then -i else i)) μ) : wCl X (.builtin "abs") [.int i] μ Φ := wcl_of call_abs fun F H xs hs r1 Q kt => by
  cases r1 with
  | cons r rr => cases rr; cases r; exact ⟨i, rfl, kt.now k hs (.int _)⟩
theorem c_max2 (hc : X.calm = true) (k : Φ (.int (if j > i then j else i)) μ) : wCl X (.builtin "max") [.int i, .int j] μ Φ := wcl_of (call_max2 hc) fun F H xs hs r1 Q kt => by
  cases r1 with
  | cons r rr => cases rr with | cons r2 rr => cases rr; cases r; cases r2; exact ⟨i, j, rfl, kt.now k hs (.int _)⟩
theorem c_min2 (hc : X.calm = true) (k : Φ (.int (if j < i then j else i)) μ) : wCl X (.builtin "min") [.int i, .int j] μ Φ := wcl_of (call_min2 hc) fun F H xs hs r1 Q kt => by
  cases r1 with
  | cons r rr => cases rr with | cons r2 rr => cases rr; cases r; cases r2; exact ⟨i, j, rfl, kt.now k hs (.int _)⟩
theorem c_lenL {ds : List D} (k : Φ (.int ds.length) μ) : wCl X (.builtin "len") [.lst ds] μ Φ := wcl_of call_len_seq fun F H xs hs r1 Q kt => by
  cases r1 with
  | cons r rr =>
    cases rr
    cases r with
    | lst g q =>
      rw [← q.length] at k
      exact ⟨_, _, rfl, .inl (Evl.sq_of (hs.ex _ _ g)), kt.now k hs (.int _)⟩
theorem c_lenC {ds : List D} (k : Φ (.int ds.length) μ) : wCl X (.builtin "len") [.scr ds] μ Φ := wcl_of call_len_seq fun F H xs hs r1 Q kt => by
  cases r1 with
  | cons r rr =>
    cases rr
    cases r with
    | scr g q =>
      rw [← q.length] at k
      exact ⟨_, _, rfl, .inl (Evl.ex_l hs.ex g), kt.now k hs (.int _)⟩
theorem c_lenT {ds : List D} (k : Φ (.int ds.length) μ) : wCl X (.builtin "len") [.tup ds] μ Φ := wcl_of call_len_seq fun F H xs hs r1 Q kt => by
  cases r1 with
  | cons r rr =>
    cases rr
    cases r with
    | tup g q =>
      rw [← q.length] at k
      exact ⟨_, _, rfl, .inr ((Evl.st_of (hs.ex _ _ g))), kt.now k hs (.int _)⟩
theorem c_lenP {q : Addr} {ds : List D} (m : Nat) (hm : μ[m]? = some (q, .lst ds)) (k : Φ (.int ds.length) μ) : wCl X (.builtin "len") [.ptr q] μ Φ := wcl_of call_len_seq fun F H xs hs r1 Q kt => by
  cases r1 with
  | cons r rr =>
    cases rr
    cases r
    obtain ⟨xs, g, r⟩ := hs.lst hm
    rw [← r.length] at k
    exact ⟨_, _, rfl, .inl (Evl.sq_of g), kt.now k hs (.int _)⟩
theorem c_lenS (hz : x.length ≤ sizeLine) (k : Φ (.int x.length) μ) : wCl X (.builtin "len") [.str x] μ Φ := wcl_of call_len_str fun F H xs hs r1 Q kt => by
  cases r1 with
  | cons r rr =>
    cases rr
    cases r
    exact ⟨_, rfl, hz, kt.now k hs (.int _)⟩
theorem c_str (hz : i.natAbs.log2 < 1920) (k : Φ (.str (toString i)) μ) : wCl X (.type "str") [.int i] μ Φ := wcl_of call_str_int fun F H xs hs r1 Q kt => by
  cases r1 with
  | cons r rr =>
    cases rr
    cases r
    exact ⟨_, rfl, hz, kt.now k hs (.str _)⟩
theorem c_intB {t : Bool} (k : Φ (.int (if t then 1 else 0)) μ) : wCl X (.type "int") [.bl t] μ Φ := wcl_of call_int1 fun F H xs hs r1 Q kt => by
  cases r1 with
  | cons r rr =>
    cases rr
    cases r
    exact .inr ⟨_, rfl, kt.now k hs (.int _)⟩
theorem c_intS {n : Int} (h : PySem.intText? x = some n) (hz : x.length ≤ 640) (k : Φ (.int n) μ) : wCl X (.type "int") [.str x] μ Φ := wcl_of call_int_str fun F H xs hs r1 Q kt => by
  cases r1 with
  | cons r rr =>
    cases rr
    cases r
    exact ⟨_, _, rfl, h, hz, kt.now k hs (.int _)⟩
/-- tuple(a list), list(a tuple, a list) -/
theorem c_tupL {ds : List D} (k : Φ (.tup ds) μ) : wCl X (.type "tuple") [.lst ds] μ Φ := wcl_of call_tuple_of fun F H xs hs r1 Q kt => by
  cases r1 with
  | cons r rr =>
    cases rr
    cases r with
    | lst g q =>
      refine ⟨_, _, rfl, .inl ⟨Evl.sq_of (hs.ex _ _ g), fun p hp => ?_⟩⟩
      obtain ⟨s1, s2⟩ := hs.laid (u := .tup _) hp
      exact kt _ _ _ _ _ k s2 s1 (.tup upd_same (q.mono s2))
theorem c_tupP {q : Addr} {ds : List D} (m : Nat) (hm : μ[m]? = some (q, .lst ds)) (k : Φ (.tup ds) μ) : wCl X (.type "tuple") [.ptr q] μ Φ := wcl_of call_tuple_of fun F H xs hs r1 Q kt => by
  cases r1 with
  | cons r rr =>
    cases rr
    cases r
    obtain ⟨xs, g, r⟩ := hs.lst hm
    refine ⟨_, _, rfl, .inl ⟨Evl.sq_of g, fun p hp => ?_⟩⟩
    obtain ⟨s1, s2⟩ := hs.laid (u := .tup _) hp
    exact kt _ _ _ _ _ k s2 s1 (.tup upd_same (r.mono s2))
theorem c_tupT {ds : List D} (k : Φ (.tup ds) μ) : wCl X (.type "tuple") [.tup ds] μ Φ := wcl_of call_tuple_of fun F H xs hs r1 Q kt => by
  cases r1 with
  | cons r rr =>
    cases rr
    cases r with
    | tup g q => exact ⟨_, _, rfl, .inr ⟨(Evl.st_of (hs.ex _ _ g)), kt.now k hs (.tup g q)⟩⟩
theorem c_lstT {ds : List D} (k : ∀ p, Φ (.ptr p) ((p, .lst ds) :: μ)) : wCl X (.type "list") [.tup ds] μ Φ := wcl_of call_list_of fun F H xs hs r1 Q kt => by
  cases r1 with
  | cons r rr =>
    cases rr
    cases r with
    | tup g q => exact ⟨_, _, rfl, .inr ((Evl.st_of (hs.ex _ _ g))), fun p hp => kt _ _ _ _ _ (k p) (Ex.refl F) (hs.cell hp (.lst q)) (.ptr p)⟩
theorem c_lstL {ds : List D} (k : ∀ p, Φ (.ptr p) ((p, .lst ds) :: μ)) : wCl X (.type "list") [.lst ds] μ Φ := wcl_of call_list_of fun F H xs hs r1 Q kt => by
  cases r1 with
  | cons r rr =>
    cases rr
    cases r with
    | lst g q => exact ⟨_, _, rfl, .inl (Evl.sq_of (hs.ex _ _ g)), fun p hp => kt _ _ _ _ _ (k p) (Ex.refl F) (hs.cell hp (.lst q)) (.ptr p)⟩
/-- isinstance -/
theorem w_ty {z : Str} {n : String} (hm : X.mg z = none) (k : Φ (.ty n) μ) (hg : Gl X z := by rfl) (hv : bootBuiltins z = some (.type n) := by decide +kernel) (hn : z ≠ "__name__" := by decide) (hd : (z == ("__debug__" : Str)) = false := by decide) : wE X (.Name z pos) ρ μ Φ := fun F σ H hs sl Q kt =>
  se_of (pe_bltn hg hm hv (v := .ty n) rfl hn hd) (kt.now k hs (.ty n))
/-- the class of a thing -/
def D.cls : D → Option Value
  | .non => some (.type "NoneType")
  | .bl _ => some (.type "bool")
  | .int _ => some (.type "int")
  | .str _ => some (.type "str")
  | .lst _ => some (.type "list")
  | .scr _ => some (.type "list")
  | .tup _ => some (.type "tuple")
  | .tpl _ => some (.type "tuple")
  | _ => none
theorem rep_cls {K : PySem.W.Frag} {F H : Hp} {v : V} {t : Value} (e : Ex F H) (r : Rep K F v d) (h : d.cls = some t) : TyX K H v t := by
  cases r with
  | non => cases h; exact .base .non
  | bl b => cases h; exact .base (.bl b)
  | int b => cases h; exact .base (.int b)
  | str b => cases h; exact .base (.str b)
  | lst g q => cases h; exact .base (.lst (e _ _ g))
  | scr g q =>
    cases h
    rcases Evl.ex_l e g with (g | ⟨o, g⟩) | ⟨o, its, n, g, c, _⟩
    · exact .base (.lst g)
    · exact .base (.frz g)
    · exact .kList g c
  | tup g q =>
    cases h
    rcases (Evl.st_of (e _ _ g)) with (g | ⟨o, g⟩) | ⟨o, its, n, g, c, _⟩
    · exact .base (.tup g)
    · exact .fTuple g
    · exact .kTuple g c
  | tpl g _ _ q => cases h; exact .fTuple (e _ _ g)
  | ptr a => cases h
  | ty n => cases h
  | dct g e2 q => cases h
theorem c_isi {n : String} {t : Value} {k : Bool} (h : d.cls = some t) (hk : PySem.W.kitOne X.K t (.type n) = some k) (q : Φ (.bl k) μ) : wCl X (.builtin "isinstance") [d, .ty n] μ Φ := wcl_of call_isi fun F H xs hs r1 Q kt => by
  cases r1 with
  | cons r rr =>
    cases rr with
    | cons r2 rr =>
      cases rr
      cases r2
      exact ⟨_, _, t, _, k, rfl, .ty n, rep_cls hs.ex r h, hk, kt.now q hs (.bl _)⟩
end
end Oc

/-! Own layer, part 4: methods, dicts. -/
namespace Oc
open PySem PySem.Spec L2
open Evl (Ex)
section
variable {κ : Type} [DecidableEq κ]
def valD (ds : List (κ × D)) (k : κ) : Option D := (ds.find? fun kv => decide (kv.1 = k)).map (·.2)
def putD (ds : List (κ × D)) (k : κ) (v : D) : List (κ × D) := if (ds.any fun kv => decide (kv.1 = k)) = true then ds.map (fun kv => if kv.1 = k then (kv.1, v) else kv) else ds ++ [(k, v)]
theorem valD_nil {k : κ} : valD ([] : List (κ × D)) k = none := rfl
theorem valD_pos {d : D} {r : List (κ × D)} {k : κ} : valD ((k, d) :: r) k = some d := by simp [valD]
theorem valD_neg {p : κ × D} {r : List (κ × D)} {k : κ} (e : ¬ p.1 = k) : valD (p :: r) k = valD r k := by simp [valD, List.find?_cons, e]
theorem RepK.val {K : PySem.W.Frag} {F : Hp} : ∀ {ds : List (κ × D)} {kvs : List (κ × V)}, RepK K F ds kvs → ∀ k, (∀ d, valD ds k = some d → ∃ v, valV kvs k = some v ∧ Rep K F v d) ∧ (valD ds k).isSome = (valV kvs k).isSome
  | _, _, .nil, k => ⟨fun d h => (nomatch h), rfl⟩
  | p :: ds, q :: kvs, .cons r rr, k => by
    obtain ⟨h1, h2⟩ := RepK.val (ds := ds) (kvs := kvs) rr k
    obtain ⟨p1, p2⟩ := p
    obtain ⟨q1, q2⟩ := q
    obtain ⟨e, r⟩ := r
    have e : p1 = q1 := e
    subst e
    by_cases hk : p1 = k
    · subst hk
      rw [valD_pos, valV_pos (p := (p1, q2)) rfl]
      exact ⟨fun d h => by cases h; exact ⟨_, rfl, r⟩, rfl⟩
    · rw [valD_neg (p := (p1, p2)) hk, valV_neg (p := (p1, q2)) hk]
      exact ⟨h1, h2⟩
theorem RepK.len {K : PySem.W.Frag} {F : Hp} {ds : List (κ × D)} {kvs : List (κ × V)} (h : RepK K F ds kvs) : ds.length = kvs.length := Paired.length h
theorem RepK.any {K : PySem.W.Frag} {F : Hp} {k : κ} : ∀ {ds : List (κ × D)} {kvs : List (κ × V)}, RepK K F ds kvs → (ds.any fun kv => decide (kv.1 = k)) = kvs.any fun kv => decide (kv.1 = k)
  | _, _, .nil => rfl
  | p :: ds, q :: kvs, .cons r rr => by rw [List.any_cons, List.any_cons, RepK.any (ds := ds) (kvs := kvs) rr, r.1]
theorem RepK.map {K : PySem.W.Frag} {F : Hp} {k : κ} {v : V} {d : D} (hr : Rep K F v d) : ∀ {ds : List (κ × D)} {kvs : List (κ × V)}, RepK K F ds kvs → RepK K F (ds.map fun kv => if kv.1 = k then (kv.1, d) else kv) (kvs.map fun kv => if kv.1 = k then (kv.1, v) else kv)
  | _, _, .nil => .nil
  | p :: ds, q :: kvs, .cons r rr => by
    refine .cons ?_ (RepK.map hr (ds := ds) (kvs := kvs) rr)
    show (if p.1 = k then (p.1, d) else p).1 = (if q.1 = k then (q.1, v) else q).1 ∧ Rep K F (if q.1 = k then (q.1, v) else q).2 (if p.1 = k then (p.1, d) else p).2
    rw [← r.1]
    by_cases hk : p.1 = k
    · rw [if_pos hk, if_pos hk]; exact ⟨rfl, hr⟩
    · rw [if_neg hk, if_neg hk]; exact r
theorem RepK.snoc {K : PySem.W.Frag} {F : Hp} {k : κ} {v : V} {d : D} (hr : Rep K F v d) : ∀ {ds : List (κ × D)} {kvs : List (κ × V)}, RepK K F ds kvs → RepK K F (ds ++ [(k, d)]) (kvs ++ [(k, v)])
  | _, _, .nil => .cons ⟨rfl, hr⟩ .nil
  | p :: ds, q :: kvs, .cons r rr => .cons r (RepK.snoc hr (ds := ds) (kvs := kvs) rr)
theorem RepK.put {K : PySem.W.Frag} {F : Hp} {k : κ} {v : V} {d : D} (hr : Rep K F v d) {ds : List (κ × D)} {kvs : List (κ × V)} (h : RepK K F ds kvs) : RepK K F (putD ds k d) (putK kvs k v) := by
  unfold putD putK
  rw [← h.any]
  split
  · exact h.map hr
  · exact h.snoc hr
end
def kD : Key → D
  | .inl i => .int i
  | .inr x => .str x
theorem rep_kD {K : PySem.W.Frag} {F : Hp} {v : V} {k : Key} (r : Rep K F v (kD k)) : v = kV k := by
  cases k <;> (cases r; rfl)
theorem rep_kDs {K : PySem.W.Frag} {F : Hp} : ∀ {ks : List Key} {vs : List V}, Reps K F vs (ks.map kD) → vs = ks.map kV
  | [], _, .nil => rfl
  | k :: ks, _, .cons r rr => by rw [rep_kD r, rep_kDs rr]; rfl
def mergeD (ds more : List (Key × D)) : List (Key × D) := more.foldl (fun acc kv => putD acc kv.1 kv.2) ds
theorem RepK.merge {K : PySem.W.Frag} {F : Hp} : ∀ {ds' : List (Key × D)} {kvs' : List (Key × V)} {ds : List (Key × D)} {kvs : List (Key × V)}, RepK K F ds' kvs' → RepK K F ds kvs → RepK K F (mergeD ds ds') (mergeK kvs kvs')
  | _, _, _, _, .nil, h => h
  | p :: ds', q :: kvs', ds, kvs, .cons r rr, h => by
    have h1 := h.put (k := p.1) r.2
    have e : putK kvs p.1 q.2 = putK kvs q.1 q.2 := by rw [r.1]
    rw [e] at h1
    exact RepK.merge (ds' := ds') (kvs' := kvs') rr h1
section
variable {X : Cy} {e a b c o k v : Expr} {es : List Expr} {ρ : Rho} {μ : Mu} {Φ : D → Mu → Prop} {d d1 d2 : D} {i j : Int} {x y : Str} {pos p apos cpos : Pos} {E : En} {ΦS : Rho → Mu → Prop}
/-! methods of lists and texts -/
theorem tyD_V {K : KF} {F H : Hp} {T : String} {u : V} (hs : Hs K F μ H) (r : Rep K F u d) (h : tyD T d μ) (hT : T ≠ "tuple") : tyV K T u H := by
  cases r with
  | str x => exact h
  | lst g q => exact .inl ⟨h, _, Evl.sq_of (hs.ex _ _ g)⟩
  | scr g q => exact .inl ⟨h, _, Evl.ex_l hs.ex g⟩
  | tup g q => exact absurd h hT
  | tpl g _ _ q => exact absurd h hT
  | ptr a =>
    rcases h with ⟨h, i, l, hi⟩ | ⟨h, i, l, hi⟩ | ⟨h, i, l, hi⟩
    · obtain ⟨xs, g, _⟩ := hs.lst hi
      exact .inl ⟨h, _, Evl.sq_of g⟩
    · obtain ⟨xs, g, _⟩ := hs.dk hi
      exact .inr (.inr (.inl ⟨h, .inl ⟨_, g⟩⟩))
    · obtain ⟨xs, g, _⟩ := hs.dt hi
      exact .inr (.inr (.inl ⟨h, .inr ⟨_, g⟩⟩))
  | non => exact h.elim
  | bl b => exact h.elim
  | int b => exact h.elim
  | ty b => exact h.elim
  | dct g e2 q => exact h.elim
def sMt (X : Cy) (id : String) : V → List V → Hp → VK → Prop := fun x xs H Q => ∀ (pins : List (Addr × Obj)) (s : Shared) (σ : L2.St) (v : Value) (us : List Value), Inv X pins σ H s → RelV x v → Vals xs us → wpAny (model X.prog X.w) X.A (call (.builtin id) (v :: us)) (EP X pins σ Q) X.xe s
theorem mt_s {X : Cy} {id : String} : MtR X id (sMt X id) := fun pins s σ H x xs v us Q I rx rv h => h pins s σ v us I rx rv
theorem wmt_of {X : Cy} {T id : String} {r : V → List V → Hp → VK → Prop} {ds : List D} {μ : Mu} {Φ : D → Mu → Prop} {d : D} (hm : MtR X id r) (h : ∀ F H x xs, Hs X.K F μ H → Rep X.K F x d → Reps X.K F xs ds → ∀ Q, Kont X.K F Φ Q → r x xs H Q) : wMt X T id d ds μ Φ :=
  fun F H x xs hs r1 r2 Q kt pins s σ v us I rv ru => hm pins s σ H x xs v us Q I rv ru (h F H x xs hs r1 r2 Q kt)
/-- o.m(e, ..) of a built-in type -/
theorem w_bm {T id : String} {name : Str} (hT : T ≠ "tuple") (pa : PlainAttrs T) (slot : Slot T name id) (hty : typeOf (.builtin id) = pure (.type "method_descriptor")) (h : wE X o ρ μ fun d μ1 => tyD T d μ1 ∧ wA X (e :: es) ρ μ1 fun ds μ2 => wMt X T id d ds μ2 Φ)
    (hbase : attributeBase o name X.env (eval o X.env) = eval o X.env := by rfl)
    (hfew : ((backTo cpos (starEach (e :: es) X.env)).all (fun x => !x.1) && (backToKw cpos (keywordEach [] X.env)).all (fun x => x.1.isSome)
      && decide ((e :: es).length + ([] : List Keyword).length + (if ([] : List Keyword).isEmpty then 0 else 1) < 30)) = true := by rfl)
    (hline : (apos.endLine == cpos.line) = true := by rfl) (hs : starEach (e :: es) X.env = (false, eval e X.env) :: starEach es X.env := by rfl) (hplain : (backTo cpos (starEach es X.env)).any (·.1) = false := by rfl) :
    wE X (.Call (.Attribute o name apos) (e :: es) [] cpos) ρ μ Φ := fun F σ H hh sl Q kt =>
  se_of (pe_bm pa slot hty (mt_s (X := X)) pe_s pa_s hbase hfew hline hs hplain) (h F σ H hh sl _ fun u F1 H1 d μ1 ⟨q1, q⟩ e1 hs1 r1 => ⟨tyD_V hs1 r1 q1 hT, q F1 σ H1 hs1 (sl.mono e1) _ fun us F2 H2 ds μ2 q2 e2 hs2 r2 => q2 F2 H2 u us hs2 (r1.mono e2) r2 Q (kt.mono (e1.trans e2))⟩)
theorem w_bm0 {T id : String} {name : Str} (hT : T ≠ "tuple") (pa : PlainAttrs T) (slot : Slot T name id) (hty : typeOf (.builtin id) = pure (.type "method_descriptor")) (h : wE X o ρ μ fun d μ1 => tyD T d μ1 ∧ wMt X T id d [] μ1 Φ)
    (hbase : attributeBase o name X.env (eval o X.env) = eval o X.env := by rfl) (hline : (apos.endLine == cpos.line) = true := by rfl) : wE X (.Call (.Attribute o name apos) [] [] cpos) ρ μ Φ := fun F σ H hh sl Q kt =>
  se_of (pe_bm0 pa slot hty (mt_s (X := X)) pe_s hbase hline) (h F σ H hh sl _ fun u F1 H1 d μ1 ⟨q1, q⟩ e1 hs1 r1 => ⟨tyD_V hs1 r1 q1 hT, q F1 H1 u [] hs1 r1 .nil Q (kt.mono e1)⟩)
theorem m_append {q : Addr} {ds : List D} (m : Nat) (hm : μ[m]? = some (q, .lst ds)) (hz : ds.length < 1000000) (k : Φ .non (μ.set m (q, .lst (ds ++ [d])))) : wMt X "list" "list.append" (.ptr q) [d] μ Φ := wmt_of mt_append fun F H u us hs r1 r2 Q kt => by
  cases r1
  cases r2 with
  | cons r rr =>
    cases rr
    obtain ⟨xs, g, rx⟩ := hs.lst hm
    refine ⟨_, _, _, rfl, rfl, g, Nat.lt_trans (by rw [rx.length]; exact hz) (show 1000000 < sizeLine by decide), ?_⟩
    exact kt.now k (hs.write hm (.lst (rx.append (.one r)))) .non
theorem m_pop {q : Addr} {ds : List D} (m : Nat) (hm : μ[m]? = some (q, .lst ds)) (hd : ds[ds.length - 1]? = some d) (k : Φ d (μ.set m (q, .lst ds.dropLast))) : wMt X "list" "list.pop" (.ptr q) [] μ Φ := wmt_of mt_pop fun F H u us hs r1 r2 Q kt => by
  cases r1
  cases r2
  obtain ⟨xs, g, rx⟩ := hs.lst hm
  obtain ⟨v, h1, h2⟩ := rx.get hd
  rw [← rx.length] at h1
  refine ⟨_, _, v, rfl, rfl, g, h1, ?_⟩
  refine kt.now k (hs.write hm (.lst ?_)) h2
  rw [List.dropLast_eq_take, List.dropLast_eq_take, rx.length]
  exact rx.take _
theorem m_reverse {q : Addr} {ds : List D} (m : Nat) (hm : μ[m]? = some (q, .lst ds)) (k : Φ .non (μ.set m (q, .lst ds.reverse))) : wMt X "list" "list.reverse" (.ptr q) [] μ Φ := wmt_of mt_reverse fun F H u us hs r1 r2 Q kt => by
  cases r1
  cases r2
  obtain ⟨xs, g, rx⟩ := hs.lst hm
  exact ⟨_, _, rfl, rfl, g, kt.now k (hs.write hm (.lst rx.reverse)) .non⟩
theorem m_extend {q : Addr} {ds fs : List D} (m : Nat) (hm : μ[m]? = some (q, .lst ds)) (hz : ds.length + fs.length ≤ 1000000) (k : Φ .non (μ.set m (q, .lst (ds ++ fs)))) : wMt X "list" "list.extend" (.ptr q) [.lst fs] μ Φ := wmt_of mt_extend fun F H u us hs r1 r2 Q kt => by
  cases r1
  cases r2 with
  | cons r rr =>
    cases rr
    cases r with
    | lst g2 r2 =>
      obtain ⟨xs, g, rx⟩ := hs.lst hm
      exact ⟨_, _, _, _, rfl, rfl, g, hs.ex _ _ g2, Nat.le_trans (by rw [rx.length, r2.length]; exact hz) (show 1000000 ≤ sizeLine by decide), kt.now k (hs.write hm (.lst (rx.append r2))) .non⟩
theorem m_join {ys : List Str} (hd : (∃ ds : List D, (d = .lst ds ∨ d = .tup ds) ∧ ds = ys.map D.str) ∨ ∃ (m : Nat) (q : Addr), d = .ptr q ∧ μ[m]? = some (q, MO.lst (ys.map D.str))) (hz : (ys.map (·.length)).sum + ys.length * x.length ≤ 16777216) (k : Φ (.str (Txt.join x ys)) μ) : wMt X "str" "str.join" (.str x) [d] μ Φ := wmt_of mt_join fun F H u us hs r1 r2 Q kt => by
  cases r1
  cases r2 with
  | cons r rr =>
    cases rr
    rcases hd with ⟨ds, hd | hd, e⟩ | ⟨m, q, rfl, hm⟩
    · subst hd
      cases r with
      | lst g rx =>
        subst e
        rw [reps_strs rx] at g
        exact ⟨x, _, ys, rfl, rfl, .inl (Evl.sq_of (hs.ex _ _ g)), hz, kt.now k hs (.str _)⟩
    · subst hd
      cases r with
      | tup g rx =>
        subst e
        rw [reps_strs rx] at g
        exact ⟨x, _, ys, rfl, rfl, .inr ((Evl.st_of (hs.ex _ _ g))), hz, kt.now k hs (.str _)⟩
    · cases r
      obtain ⟨xs, g, rx⟩ := hs.lst hm
      rw [reps_strs rx] at g
      exact ⟨x, _, ys, rfl, rfl, .inl (Evl.sq_of g), hz, kt.now k hs (.str _)⟩
theorem w_append (h : wE X o ρ μ fun d μ1 => tyD "list" d μ1 ∧ wA X [e] ρ μ1 fun ds μ2 => wMt X "list" "list.append" d ds μ2 Φ)
    (hbase : attributeBase o "append" X.env (eval o X.env) = eval o X.env := by rfl)
    (hfew : ((backTo cpos (starEach [e] X.env)).all (fun x => !x.1) && (backToKw cpos (keywordEach [] X.env)).all (fun x => x.1.isSome)
      && decide (([e] : List Expr).length + ([] : List Keyword).length + (if ([] : List Keyword).isEmpty then 0 else 1) < 30)) = true := by rfl)
    (hline : (apos.endLine == cpos.line) = true := by rfl) (hs : starEach [e] X.env = (false, eval e X.env) :: starEach [] X.env := by rfl) :
    wE X (.Call (.Attribute o "append" apos) [e] [] cpos) ρ μ Φ := w_bm (by decide) PySem.F.plainAttrs_list PySem.F.slot_list_append PySem.F.type_list_append h hbase hfew hline hs rfl
theorem w_extend (h : wE X o ρ μ fun d μ1 => tyD "list" d μ1 ∧ wA X [e] ρ μ1 fun ds μ2 => wMt X "list" "list.extend" d ds μ2 Φ)
    (hbase : attributeBase o "extend" X.env (eval o X.env) = eval o X.env := by rfl)
    (hfew : ((backTo cpos (starEach [e] X.env)).all (fun x => !x.1) && (backToKw cpos (keywordEach [] X.env)).all (fun x => x.1.isSome)
      && decide (([e] : List Expr).length + ([] : List Keyword).length + (if ([] : List Keyword).isEmpty then 0 else 1) < 30)) = true := by rfl)
    (hline : (apos.endLine == cpos.line) = true := by rfl) (hs : starEach [e] X.env = (false, eval e X.env) :: starEach [] X.env := by rfl) :
    wE X (.Call (.Attribute o "extend" apos) [e] [] cpos) ρ μ Φ := w_bm (by decide) PySem.F.plainAttrs_list PySem.F.slot_list_extend PySem.F.type_list_extend h hbase hfew hline hs rfl
theorem w_pop (h : wE X o ρ μ fun d μ1 => tyD "list" d μ1 ∧ wMt X "list" "list.pop" d [] μ1 Φ) (hbase : attributeBase o "pop" X.env (eval o X.env) = eval o X.env := by rfl) (hline : (apos.endLine == cpos.line) = true := by rfl) :
    wE X (.Call (.Attribute o "pop" apos) [] [] cpos) ρ μ Φ := w_bm0 (by decide) PySem.F.plainAttrs_list PySem.F.slot_list_pop PySem.F.type_list_pop h hbase hline
theorem w_reverse (h : wE X o ρ μ fun d μ1 => tyD "list" d μ1 ∧ wMt X "list" "list.reverse" d [] μ1 Φ) (hbase : attributeBase o "reverse" X.env (eval o X.env) = eval o X.env := by rfl) (hline : (apos.endLine == cpos.line) = true := by rfl) :
    wE X (.Call (.Attribute o "reverse" apos) [] [] cpos) ρ μ Φ := w_bm0 (by decide) PySem.F.plainAttrs_list PySem.F.slot_list_reverse PySem.F.type_list_reverse h hbase hline
theorem w_join (h : wE X o ρ μ fun d μ1 => tyD "str" d μ1 ∧ wE X e ρ μ1 fun d2 μ2 => wMt X "str" "str.join" d [d2] μ2 Φ)
    (hbase : attributeBase o "join" X.env (eval o X.env) = eval o X.env := by rfl) (hline : (apos.endLine == cpos.line) = true := by rfl) (hs : starEach [e] X.env = [(false, eval e X.env)] := by rfl) :
    wE X (.Call (.Attribute o "join" apos) [e] [] cpos) ρ μ Φ := fun F σ H hh sl Q kt =>
  se_of (pe_m1 PySem.F.slot_str_join PySem.F.type_str_join (mt_s (X := X)) pe_s pe_s hs hbase hline) (h F σ H hh sl _ fun u F1 H1 d μ1 ⟨q1, q⟩ e1 hs1 r1 => by
    cases d with
    | str z =>
      cases r1
      exact ⟨⟨z, rfl⟩, q F1 σ H1 hs1 (sl.mono e1) _ fun w F2 H2 d2 μ2 q2 e2 hs2 r2 => q2 F2 H2 _ [w] hs2 (.str z) (.one r2) Q (kt.mono (e1.trans e2))⟩
    | _ => simp [tyD] at q1)
/-! dicts with keys ints and texts -/
theorem w_dget (hu : X.c.A.units + 1 < cLine) (h : wE X o ρ μ fun d1 μ1 => wE X k ρ μ1 fun d2 μ2 => ∃ (q : Addr) (m : Nat) (ds : List (Key × D)) (kk : Key) (d : D), d1 = .ptr q ∧ d2 = kD kk ∧ μ2[m]? = some (q, MO.dk ds) ∧ valD ds kk = some d ∧ Φ d μ2) (hs : NoSl k := by exact fun _ _ => rfl) : wE X (.Subscript o k pos) ρ μ Φ := fun F σ H hh sl Q kt =>
  se_of (pe_dget hu pe_s pe_s hs) (binW h hh sl fun x y F2 H2 d1 d2 μ2 ⟨q, m, ds, kk, d, h1, h2, hm, hv, z⟩ e hs2 r1 r2 => by
    subst h1
    subst h2
    cases r1
    have e2 := rep_kD r2
    subst e2
    obtain ⟨kvs, g, rk⟩ := hs2.dk hm
    obtain ⟨v, hv, rv⟩ := (rk.val kk).1 d hv
    exact ⟨q, v, rfl, by rw [← hv]; exact DGet.k g, kt _ _ _ _ _ z e hs2 rv⟩)
theorem w_dput (hu : X.c.A.units + 1 < cLine) {q0 : Pos} (h : wE X e ρ μ fun d μ0 => wE X o ρ μ0 fun d1 μ1 => wE X k ρ μ1 fun d2 μ2 => ∃ (q : Addr) (m : Nat) (ds : List (Key × D)) (kk : Key), d1 = .ptr q ∧ d2 = kD kk ∧ μ2[m]? = some (q, MO.dk ds) ∧ ds.length < 1000000 ∧ E.nx ρ (μ2.set m (q, .dk (putD ds kk d))))
    (hs : swapsWith e (some (.Subscript o k q0)) pos.line X.env = pure false := by rfl) : wS X (.Assign [.Subscript o k q0] e pos) ρ μ E := fun F σ H hh sl D kt =>
  ss_of (ps_dput hu pe_s pe_s pe_s hs) (h F σ H hh sl _ fun v F0 H0 d μ0 h0 e0 hs0 r0 => binW (R := fun x y H2 => ∃ a H4, x = .ref a ∧ DPut H2 a y v H4 ∧ D.nx σ H4) h0 hs0 (sl.mono e0) fun x y F2 H2 d1 d2 μ2 ⟨q, m, ds, kk, h1, h2, hm, hz, z⟩ e hs2 r1 r2 => by
    subst h1
    subst h2
    cases r1
    have e2 := rep_kD r2
    subst e2
    obtain ⟨kvs, g, rk⟩ := hs2.dk hm
    have hz' : kvs.length < sizeLine := Nat.lt_trans (by rw [← rk.len]; exact hz) (show 1000000 < sizeLine by decide)
    exact ⟨q, _, rfl, DPut.k g hz', kt.nx F2 _ σ ρ _ z (e0.trans e) (hs2.write hm (.dk (rk.put (r0.mono e)))) (sl.mono (e0.trans e))⟩)
theorem w_din (hu : X.c.A.units + 1 < cLine) (h : wE X k ρ μ fun d2 μ1 => wE X o ρ μ1 fun d1 μ2 => ∃ (q : Addr) (m : Nat) (ds : List (Key × D)) (kk : Key), d1 = .ptr q ∧ d2 = kD kk ∧ μ2[m]? = some (q, MO.dk ds) ∧ Φ (.bl (valD ds kk).isSome) μ2) (hm : behindInMarks .In o = false := by rfl) : wE X (.Compare k [.In] [o] pos) ρ μ Φ := fun F σ H hh sl Q kt =>
  se_of (pe_cmp (pc_din hu pe_s pe_s) hm) (binW h hh sl fun y x F2 H2 d2 d1 μ2 ⟨q, m, ds, kk, h1, h2, hm, z⟩ e hs2 r2 r1 => by
    subst h1
    subst h2
    cases r1
    have e2 := rep_kD r2
    subst e2
    obtain ⟨kvs, g, rk⟩ := hs2.dk hm
    refine ⟨q, _, rfl, DGet.k g, ?_⟩
    rw [← (rk.val kk).2]
    exact kt _ _ _ _ _ z e hs2 (.bl _))
theorem w_dnin (hu : X.c.A.units + 1 < cLine) (h : wE X k ρ μ fun d2 μ1 => wE X o ρ μ1 fun d1 μ2 => ∃ (q : Addr) (m : Nat) (ds : List (Key × D)) (kk : Key), d1 = .ptr q ∧ d2 = kD kk ∧ μ2[m]? = some (q, MO.dk ds) ∧ Φ (.bl (!(valD ds kk).isSome)) μ2) (hm : behindInMarks .NotIn o = false := by rfl) : wE X (.Compare k [.NotIn] [o] pos) ρ μ Φ := fun F σ H hh sl Q kt =>
  se_of (pe_cmp (pc_dnotin hu pe_s pe_s) hm) (binW h hh sl fun y x F2 H2 d2 d1 μ2 ⟨q, m, ds, kk, h1, h2, hm, z⟩ e hs2 r2 r1 => by
    subst h1
    subst h2
    cases r1
    have e2 := rep_kD r2
    subst e2
    obtain ⟨kvs, g, rk⟩ := hs2.dk hm
    refine ⟨q, _, rfl, DGet.k g, ?_⟩
    rw [← (rk.val kk).2]
    exact kt _ _ _ _ _ z e hs2 (.bl _))
/-- the pairs of a display -/
def wP (X : Cy) (ρ : Rho) : List (Option Expr) → List Expr → Mu → (List (D × D) → Mu → Prop) → Prop
  | [], [], μ, Ψ => Ψ [] μ
  | some k :: ks, v :: vs, μ, Ψ => wE X k ρ μ fun dk μ1 => wE X v ρ μ1 fun dv μ2 => wP X ρ ks vs μ2 fun ps μ3 => Ψ ((dk, dv) :: ps) μ3
  | _, _, _, _ => False
def sPs (X : Cy) : List (Option Expr) → List Expr → List (TE × TE)
  | some k :: ks, v :: vs => (sE X k, sE X v) :: sPs X ks vs
  | _, _ => []
inductive RepP (K : PySem.W.Frag) (F : Hp) : List (V × V) → List (D × D) → Prop
  | nil : RepP K F [] []
  | cons {u v : V} {d e : D} {ps : List (V × V)} {ds : List (D × D)} : Rep K F u d → Rep K F v e → RepP K F ps ds → RepP K F ((u, v) :: ps) ((d, e) :: ds)
theorem wP.pps {ρ : Rho} : ∀ {ks : List (Option Expr)} {vs : List Expr}, ks.all (·.isSome) = true → ks.length = vs.length → ∀ pos, PPs X pos ks vs (sPs X ks vs)
  | [], [], _, _, pos => pps_nil
  | some k :: ks, v :: vs, h, hl, pos => pps_cons pe_s pe_s (wP.pps (ρ := ρ) (ks := ks) (vs := vs) (by simpa using h) (by simpa using hl) pos)
  | some _ :: _, [], _, h, _ => by simp at h
  | none :: _, _, h, _, _ => by simp at h
  | [], _ :: _, _, h, _ => by simp at h
theorem wP.go {ρ : Rho} : ∀ {ks : List (Option Expr)} {vs : List Expr} {μ : Mu} {Ψ : List (D × D) → Mu → Prop}, wP X ρ ks vs μ Ψ → ∀ {F : Hp} {σ : L2.St} {H : Hp}, Hs X.K F μ H → Sl X.K F ρ σ → ∀ {Q : List (V × V) → Hp → Prop}, (∀ ps F' H' ds μ', Ψ ds μ' → Ex F F' → Hs X.K F' μ' H' → RepP X.K F' ps ds → Q ps H') →
    tPairs (sPs X ks vs) σ H Q
  | [], [], μ, Ψ, h, F, σ, H, hs, sl, Q, kt => kt [] F H [] μ h (Ex.refl F) hs .nil
  | some k :: ks, v :: vs, μ, Ψ, h, F, σ, H, hs, sl, Q, kt => h F σ H hs sl _ fun x F1 H1 d1 μ1 h1 e1 hs1 r1 => h1 F1 σ H1 hs1 (sl.mono e1) _ fun y F2 H2 d2 μ2 h2 e2 hs2 r2 =>
    wP.go (ks := ks) (vs := vs) h2 hs2 (sl.mono (e1.trans e2)) fun ps F3 H3 ds μ3 h3 e3 hs3 r3 => kt _ F3 H3 _ μ3 h3 (e1.trans (e2.trans e3)) hs3 (.cons (r1.mono (e2.trans e3)) (r2.mono e3) r3)
  | some _ :: _, [], μ, Ψ, h, F, σ, H, hs, sl, Q, kt => h.elim
  | none :: _, _, μ, Ψ, h, F, σ, H, hs, sl, Q, kt => h.elim
  | [], _ :: _, μ, Ψ, h, F, σ, H, hs, sl, Q, kt => h.elim
theorem repP_k {K : PySem.W.Frag} {F : Hp} : ∀ {kds : List (Key × D)} {ps : List (V × V)}, RepP K F ps (kds.map fun kv => (kD kv.1, kv.2)) → ∃ kvs : List (Key × V), ps = kvs.map (fun kv => (kV kv.1, kv.2)) ∧ RepK K F kds kvs
  | [], _, .nil => ⟨[], rfl, .nil⟩
  | (k, d) :: kds, _, .cons r1 r2 rr => by
    obtain ⟨kvs, h1, h2⟩ := repP_k rr
    refine ⟨(k, _) :: kvs, ?_, .cons ⟨rfl, r2⟩ h2⟩
    rw [rep_kD r1, h1]
    rfl
/-- {k: v, ..}: a new cell -/
theorem w_disp {ks : List (Option Expr)} {vs : List Expr} (h0 : ks ≠ []) (hall : ks.all (·.isSome) = true) (hl : ks.length = vs.length) (h15 : ks.length ≤ 15)
    (h : ∀ q, wP X ρ ks vs ((q, .dk []) :: μ) fun ps μ1 => ∃ (kds : List (Key × D)) (μ2 : Mu), ps = kds.map (fun kv => (kD kv.1, kv.2)) ∧ kds.length ≤ 15 ∧ μ1 = (q, MO.dk []) :: μ2 ∧ Φ (.ptr q) ((q, MO.dk (mergeD [] kds)) :: μ2)) : wE X (.Dict ks vs pos) ρ μ Φ := fun F σ H hh sl Q kt =>
  se_of (pe_disp (wP.pps (ρ := ρ) hall hl pos) hall hl h0 h15) fun q hq => (h q).go (hh.cell hq (.dk .nil)) sl fun ps F1 H1 ds μ1 ⟨kds, μ2, h1, h2, h3, h4⟩ e1 hs1 r1 => by
    subst h1
    subst h3
    obtain ⟨kvs0, g, rk0⟩ := hs1.dk (i := 0) rfl
    cases rk0
    obtain ⟨kvs, h5, h6⟩ := repP_k r1
    exact ⟨g, kvs, h5, by rw [← h6.len]; exact h2, kt _ F1 _ _ _ h4 e1 (hs1.write (i := 0) rfl (.dk (h6.merge .nil))) (.ptr q)⟩
theorem w_dnew (h : ∀ q, Φ (.ptr q) ((q, .dk []) :: μ)) : wE X (.Dict [] [] pos) ρ μ Φ := fun F σ H hh sl Q kt => se_of pe_dnewK fun q hq => kt _ F _ _ _ (h q) (Ex.refl F) (hh.cell hq (.dk .nil)) (.ptr q)
theorem w_dnewT (h : ∀ q, Φ (.ptr q) ((q, .dt []) :: μ)) : wE X (.Dict [] [] pos) ρ μ Φ := fun F σ H hh sl Q kt => se_of pe_dnewT fun q hq => kt _ F _ _ _ (h q) (Ex.refl F) (hh.cell hq (.dt .nil)) (.ptr q)
end
end Oc
namespace Oc
open PySem PySem.Spec L2
open Evl (Ex)
section
variable {P : Program} {w : World} {K : PySem.W.Frag} {mg : Str → Option Value} {base : Heap}
/-- a def of the text as it stands behind the top -/
structure Src (K : PySem.W.Frag) (mg : Str → Option Value) (x : Str) (st : Stmt) (ps : List Str) : Prop where
  ex : ∃ f fd, Fun K x x st f fd ∧ mg x = some (.ref f) ∧ Binds K fd ps []
theorem src_mk {x : Str} {st : Stmt} {ps : List Str} {f : Addr} {oc : Value} {od an : Option Addr} {osl : Array (Option Value)} {kV doc pm cdv ct : Value} (hm : mg x = some (.ref f)) (l : K.lookup f = some ⟨oc, od, .func (PySem.W.fnOf x x (defArgs st) (defBody st) (defScope st) .none kV doc pm an cdv ct), osl⟩)
    (c : PySem.W.codeIn K cdv x = true) (k : PySem.W.keepIn K (.ref f) = true)
    (h : ∀ (kV doc pm : Value) (an : Option Addr) (cdv ct : Value) (us : List Value), us.length = ps.length → bindArgs (PySem.W.fnOf x x (defArgs st) (defBody st) (defScope st) .none kV doc pm an cdv ct) ⟨us, []⟩ = pure (ps.zip us)) : Src K mg x st ps :=
  ⟨f, _, fun_mk l c k, hm, (fun_mk l c k).binds h⟩
end
section
variable {X : Cy} {e : Expr} {es : List Expr} {st : Stmt} {sts : List Stmt} {ρ : Rho} {μ : Mu} {Φ : D → Mu → Prop} {E : En} {pos p : Pos}
/-- a word between a statement and the rest -/
theorem w_cut (M : Rho → Mu → Prop) (h : wS X st ρ μ { E with nx := M }) (k : ∀ ρ' μ', M ρ' μ' → wSs X sts ρ' μ' E) : wSs X (st :: sts) ρ μ E := fun F σ H hs sl D kt =>
  w_cons (E := E) (fun F σ H hs sl D kt => h F σ H hs sl _ ⟨fun F1 H1 σ1 ρ1 μ1 q e1 hs1 sl1 => kt.nx F1 H1 σ1 ρ1 μ1 (k ρ1 μ1 q) e1 hs1 sl1, kt.rt, kt.bk, kt.ct⟩) F σ H hs sl D kt
end
/-- the end: law(script) -/
def S_law : FS := fun ds μ Φ => ∃ ns : List Int, ds = [.scr (ns.map D.int)] ∧ ns.length ≤ 63 ∧ ∀ μ', Φ (.bl true) μ'
theorem law_end {K : PySem.W.Frag} {a : Addr} {ns : List Int} {H : Hp} {Q : VK} {E : XK} (hS : SqL K H a (ns.map V.int)) (hl : ns.length ≤ 63) (q : ∀ H', Q (.bl true) H') : spD K S_law [.ref a] H Q E :=
  ⟨fun _ => none, H, [.scr (ns.map D.int)], [], fun d _ => d = .bl true, Hs.of_still (fun a o z => nomatch z), .one (.scr hS (reps_map (fun n => .int n) ns)), ⟨ns, rfl, hl, fun _ => rfl⟩, fun v F' H' d μ' h _ _ r => by subst h; cases r; exact q H'⟩
end Oc

/-! Own layer, part 5: lists of whole numbers compared. -/
namespace Oc
open PySem PySem.Spec L2
open Evl (Ex)
theorem pys_map {α : Type} {f : α → D} : ∀ l : List α, D.pys (l.map f) = l.map fun a => (f a).py
  | [] => by rw [List.map_nil, List.map_nil, D.pys]
  | a :: l => by rw [List.map_cons, List.map_cons, D.pys, pys_map l]
theorem stills_map {α : Type} {f : α → D} (h : ∀ a, (f a).still = true) : ∀ l : List α, D.stills (l.map f) = true
  | [] => by rw [List.map_nil, D.stills]
  | a :: l => by rw [List.map_cons, D.stills, h a, stills_map h l]; rfl
theorem eqvAll_ints : ∀ ns ms : List Int, PyData.eqvAll (ns.map PyData.int) (ms.map PyData.int) = decide (ns = ms)
  | [], [] => by simp [PyData.eqvAll]
  | [], _ :: _ => by simp [PyData.eqvAll]
  | _ :: _, [] => by simp [PyData.eqvAll]
  | n :: ns, m :: ms => by
    rw [List.map_cons, List.map_cons, PyData.eqvAll, PyData.eqv, eqvAll_ints ns ms, Bool.eq_iff_iff]
    simp
theorem canLay_ints : ∀ ns : List Int, PyData.canLayAll0 (ns.map PyData.int) = true
  | [] => by simp [PyData.canLayAll0]
  | n :: ns => by rw [List.map_cons, PyData.canLayAll0, PyData.canLay0, canLay_ints ns]; rfl
theorem depth_ints : ∀ ns : List Int, PyData.depthAll (ns.map PyData.int) ≤ 1
  | [] => by simp [PyData.depthAll]
  | n :: ns => by
    have h := depth_ints ns
    rw [List.map_cons, PyData.depthAll]
    simp only [PyData.depth] at *
    omega
theorem shaped_ints (ns : List Int) : SeqAt.shaped (.list (ns.map PyData.int)) = true := by
  unfold SeqAt.shaped
  have h := depth_ints ns
  rw [Bool.and_eq_true]
  refine ⟨by rw [PyData.canLay0]; exact canLay_ints ns, decide_eq_true ?_⟩
  simp only [PyData.depth]
  omega
section
variable {X : Cy} {μ : Mu} {Φ : D → Mu → Prop}
theorem py_ints (ns : List Int) : (D.lst (ns.map D.int)).py = .list (ns.map PyData.int) := by
  rw [D.py, pys_map]
  rfl
theorem o_eqIL (hu : X.c.A.units + 64 < cLine) (ns ms : List Int) {d1 d2 : D} (h1 : d1 = .lst (ns.map D.int)) (h2 : d2 = .lst (ms.map D.int)) (k : Φ (.bl (decide (ns = ms))) μ) : wOp X (compareOp .Eq) d1 d2 μ Φ := by
  subst h1 h2
  refine o_eqD hu (by rw [D.still]; exact stills_map (fun _ => rfl) ns) (by rw [D.still]; exact stills_map (fun _ => rfl) ms) (by rw [py_ints]; exact shaped_ints ns) (by rw [py_ints]; exact shaped_ints ms) ?_
  rw [py_ints, py_ints, PyData.eqv, eqvAll_ints]
  exact k
theorem o_neIL (hu : X.c.A.units + 64 < cLine) (ns ms : List Int) {d1 d2 : D} (h1 : d1 = .lst (ns.map D.int)) (h2 : d2 = .lst (ms.map D.int)) (k : Φ (.bl (!decide (ns = ms))) μ) : wOp X (compareOp .NotEq) d1 d2 μ Φ := by
  subst h1 h2
  refine o_neD hu (by rw [D.still]; exact stills_map (fun _ => rfl) ns) (by rw [D.still]; exact stills_map (fun _ => rfl) ms) (by rw [py_ints]; exact shaped_ints ns) (by rw [py_ints]; exact shaped_ints ms) ?_
  rw [py_ints, py_ints, PyData.eqv, eqvAll_ints]
  exact k
end
end Oc
namespace Oc
open PySem PySem.Spec L2
theorem wt_b {X : Cy} {e : Expr} {ρ : Rho} {μ : Mu} {ΦT : Bool → Mu → Prop} (b : Bool) (h : wT X e ρ μ fun k μ1 => k = b ∧ μ1 = μ) (q : ΦT b μ) : wT X e ρ μ ΦT := wt_mono h fun k μ1 ⟨h1, h2⟩ => by subst h1 h2; exact q
end Oc

/-! The pen of the laws k42 to k55: plain facts. -/
namespace Oc
open PySem PySem.Spec L2
/-- a pen's dict -/
def penL (ns : List Int) (a l : Int) : List (Key × D) := [(.inr "cells", .scr (ns.map D.int)), (.inr "at", .int a), (.inr "left", .int l)]
theorem k_ca : ¬ ((Sum.inr ("cells" : Str) : Key) = Sum.inr ("at" : Str)) := by decide +kernel
theorem k_cl : ¬ ((Sum.inr ("cells" : Str) : Key) = Sum.inr ("left" : Str)) := by decide +kernel
theorem k_al : ¬ ((Sum.inr ("at" : Str) : Key) = Sum.inr ("left" : Str)) := by decide +kernel
theorem k_la : ¬ ((Sum.inr ("left" : Str) : Key) = Sum.inr ("at" : Str)) := by decide +kernel
variable {ns : List Int} {a l b : Int}
theorem pen_cells : valD (penL ns a l) (.inr "cells") = some (.scr (ns.map D.int)) := valD_pos
theorem pen_at : valD (penL ns a l) (.inr "at") = some (.int a) := (valD_neg k_ca).trans valD_pos
theorem pen_left : valD (penL ns a l) (.inr "left") = some (.int l) := (valD_neg k_cl).trans ((valD_neg k_al).trans valD_pos)
theorem put_at : putD (penL ns a l) (.inr "at") (.int b) = penL ns b l := by
  unfold putD penL
  simp only [List.any_cons, List.any_nil, List.map_cons, List.map_nil, if_neg k_ca, if_neg k_la, decide_eq_false k_ca, decide_true, Bool.true_or, Bool.or_true, if_true]
theorem put_left : putD (penL ns a l) (.inr "left") (.int b) = penL ns a b := by
  unfold putD penL
  simp only [List.any_cons, List.any_nil, List.map_cons, List.map_nil, if_neg k_cl, if_neg k_al, decide_eq_false k_cl, decide_eq_false k_al, decide_true, Bool.true_or, Bool.or_true, if_true]
theorem pen_new : mergeD [] [(.inr "cells", .scr (ns.map D.int)), (.inr "at", .int a), (.inr "left", .int l)] = penL ns a l := by
  unfold mergeD
  simp only [List.foldl_cons, List.foldl_nil]
  have e1 : putD ([] : List (Key × D)) (.inr "cells") (.scr (ns.map D.int)) = [(.inr "cells", .scr (ns.map D.int))] := rfl
  rw [e1]
  unfold putD penL
  simp only [List.any_cons, List.any_nil, decide_eq_false k_ca, decide_eq_false k_cl, decide_eq_false k_al, Bool.false_or, if_neg Bool.false_ne_true, Bool.or_false, List.cons_append, List.nil_append]
/-- what a pen's cell holds, at most n numbers drawn off the cells so far -/
def PenO (ns : List Int) (n : Nat) (o : MO) : Prop := ∃ a l : Int, o = .dk (penL ns a l) ∧ 0 ≤ a ∧ a ≤ n ∧ 0 ≤ l
/-- the pen stands as cell i of the cells -/
def PenAt (ns : List Int) (n : Nat) (q : Addr) (i : Nat) (μ : Mu) : Prop := ∃ o, μ[i]? = some (q, o) ∧ PenO ns n o
/-- a number is drawn -/
def S_take : FS := fun ds μ Φ => ∃ (ns : List Int) (n : Nat) (q : Addr) (i : Nat) (many : Int), ds = [.ptr q, .int many] ∧ PenAt ns n q i μ ∧ n ≤ 1000000 ∧ ns.length ≤ 63 ∧ (0 < many ∧ many < 1000000000) ∧
  ∀ r o, 0 ≤ r → r < many → PenO ns (n + 1) o → Φ (.int r) (μ.set i (q, o))
theorem set_get {α : Type} {l : List α} {i : Nat} {x y : α} (h : l[i]? = some x) : (l.set i y)[i]? = some y := List.getElem?_set_self (List.getElem?_eq_some_iff.mp h).1
theorem PenAt.set {n m : Nat} {q : Addr} {i : Nat} {μ : Mu} {o : MO} (h : PenAt ns n q i μ) (ho : PenO ns m o) : PenAt ns m q i (μ.set i (q, o)) := by
  obtain ⟨o', h1, _⟩ := h
  exact ⟨o, set_get h1, ho⟩
theorem abs_nn (x : Int) : 0 ≤ (if x < 0 then -x else x) := by split <;> omega
end Oc

/-! Own layer, guarded: a def's promise where no repr is under way, so that repr of nested data may be told. -/
namespace Oc
open PySem PySem.Spec L2
open Evl (Ex)
/-- room, and no repr under way -/
structure Rm (k : Nat) (A : Around) : Prop where
  r : Room k A
  g : A.guards = some []
theorem Rm.le {j k : Nat} {A : Around} (h : Rm k A) (q : j ≤ k) : Rm j A := ⟨h.r.mono q, h.g⟩
theorem Rm.units {k : Nat} {A : Around} (h : Rm k A) : A.units + 64 < cLine := h.r.units
theorem Rm.in {k : Nat} {A : Around} (h : Rm (k + 1) A) (env : Env) : Rm k (A.deeper env) := ⟨h.r.deeper env, h.g⟩
/-- a def's promise, where no repr is under way -/
structure FnG (P : Program) (w : World) (K : PySem.W.Frag) (mg : Str → Option Value) (base : Heap) (k : Nat) (f : Addr) (fd : FuncData) (ps : List Str) (S : FS) : Prop where
  len : ∀ ds μ Φ, S ds μ Φ → ds.length = ps.length
  run : ∀ (A : Around) (outer : List Env) (s : Shared) (H : Hp) (args : Args) (us : List Value) (vs : List V) (Q : VK), Rm k A → Env0 P w K mg base A outer s H → BindsTo s fd args (ps.zip us) → Vals vs us → spD K S vs H Q E0 →
    codeAny (model P w) A (.call (.ref f) args) (CR CX0 outer P w H s Q E0) s
theorem spD_len {K : PySem.W.Frag} {S : FS} {n : Nat} (len : ∀ ds μ Φ, S ds μ Φ → ds.length = n) {vs : List V} {H : Hp} {Q : VK} {E : XK} (h : spD K S vs H Q E) : vs.length = n := by
  obtain ⟨_, _, ds, μ, Φ, _, r, q, _⟩ := h
  exact r.length.trans (len ds μ Φ q)
section
variable {X : Cy} {k : Nat} {f : Addr} {fd : FuncData} {ps : List Str} {S : FS}
theorem fnG_run {pins : List (Addr × Obj)} {σ : L2.St} {H : Hp} {s : Shared} {Q : VK} {us : List Value} {vs : List V} (F : FnG X.prog X.w X.K X.mg X.base k f fd ps S) (hr : Rm k X.A) (hb : Binds X.K fd ps []) (I : Inv X pins σ H s) (r : Vals vs us) (h : spD X.K S vs H Q E0) :
    wpAny (model X.prog X.w) X.A (call (.ref f) us) (EP X pins σ Q) X.xe s := by
  have n1 : (us ++ []).length = ps.length := by rw [List.append_nil, ← r.length]; exact spD_len F.len h
  have b1 := hb s us I.kIn n1
  rw [List.append_nil] at b1
  refine wpAny_call (codeAny_mono (F.run X.A X.stack s H ⟨us, []⟩ us vs Q hr I.env0 b1 r h) fun res s2 hq => ?_)
  rcases res with e | fl
  · exact False.elim hq
  · cases fl <;> first | exact I.after hq | exact False.elim hq
end
section
open PyProof.Rows
variable {P : Program} {w : World} {K : PySem.W.Frag} {mg : Str → Option Value} {base : Heap}
theorem fnG_ofC {x : Str} {st : Stmt} {f : Addr} {fd : FuncData} {N ps : List Str} {k : Nat} {S : FS} (F : Fun K x x st f fd) (Sc : FnScope N ps (defScope st)) (len : ∀ ds μ Φ, S ds μ Φ → ds.length = ps.length)
    (body : ∀ (cdv : Value), fd.code = cdv → ∀ (A : Around) (outer : List Env) (s : Shared) (H : Hp) (E : XK) (g : Hp), Rm k (A.deeper (envOfC x (defScope st) s.heap.objs.size f cdv)) → ∀ ds μ Φ, S ds μ Φ →
      wSs ⟨(cxOf CX0 P w K mg base N x (defScope st) f cdv A outer s H E).nox, g⟩ (defBody st) (rho N ds) μ { nx := fun _ μ' => Φ .non μ', rt := Φ }) : FnG P w K mg base (k + 1) f fd ps S := by
  obtain ⟨oc, od, kV, doc, pm, an, cdv, ct, osl, rfl, lk, hcd⟩ := F.ex
  refine ⟨len, fun A outer s H args us vs Q hr e0 hb r hsp => ?_⟩
  have hl := spD_len len hsp
  have kS : K.In s.heap := e0.mod.kin.keeps fun b o e => (e0.bs b o e).1
  have nl : s.heap.NoLimit := Heap.NoLimit.keeps e0.mod.nolimit fun b o e => (e0.bs b o e).1
  have kinds : ∀ y ∈ ps.zip us, (defScope st).names.lookup y.1 = some .local ∨ ((defScope st).names.lookup y.1 = some .cell ∧ ((cellsFrom (s.heap.objs.size + 1) (defScope st).names []).lookup y.1).isSome = true) := by
    rintro ⟨n, v⟩ hy
    exact (Sc.par n (List.of_mem_zip hy).1).imp id fun q => ⟨q, PySem.W.cellsFrom_some _ _ _ (.inl q)⟩
  refine codeAny_call_function hr.r.depth (kS _ _ lk) rfl Sc.co Sc.gen rfl (PySem.W.codeRec_of kS hcd) (hb _ _ _ _ (wpAny_newFunctionEnv_cells Sc.kind kinds fun env he s1 x1 => ?_))
  subst he
  refine ⟨nl.keeps x1.toInCall.keep, codeAny_func ?_⟩
  have I : Inv (cxOf CX0 P w K mg base N x (defScope st) f cdv A outer s H E0) [] (L2.start N vs) H s1 := inv_start Sc hr.r.hd e0 hl r x1
  obtain ⟨g, F', ds, μ, Φ, hs, rr, q, kt⟩ := hsp
  have B := body cdv rfl A outer s H E0 g (hr.in _) ds μ Φ q F' (L2.start N vs) H hs (sl_start rr) { nx := fun _ H' => Q .non H', rt := Q, bk := fun _ _ => False, ct := fun _ _ => False }
    ⟨fun F1 H1 σ1 ρ1 μ1 q e1 hs1 sl1 => kt .non F1 H1 .non μ1 q e1 hs1 .non, kt, fun F1 H1 σ1 ρ1 μ1 q => False.elim q, fun F1 H1 σ1 ρ1 μ1 q => False.elim q⟩
  have B2 := (PSs.nox (X := cxOf CX0 P w K mg base N x (defScope st) f cdv A outer s H E0) (pss_s (X := ⟨(cxOf CX0 P w K mg base N x (defScope st) f cdv A outer s H E0).nox, g⟩))).run [] s1 (L2.start N vs) H _ I B
  refine wpAny_mono B2 (fun fl s' z => ?_) fun e s' z => z
  have fin : ∀ {σ' : L2.St} {H' : Hp} {v : V} {u : Value}, Inv (cxOf CX0 P w K mg base N x (defScope st) f cdv A outer s H E0) [] σ' H' s' → RelV v u → Q v H' → CE outer P w H s Q u s' := fun {_ H' v _} J rv q => ⟨v, H', J.os, J.bare, J.base, J.hok, rv, q⟩
  cases fl with
  | next => obtain ⟨_, _, J, q⟩ := z; exact fin (v := .non) (u := .none) J rfl q
  | ret u => obtain ⟨_, _, _, J, rv, q⟩ := z; exact fin J rv q
  | brk => obtain ⟨_, _, _, q⟩ := z; exact q.elim
  | cont => obtain ⟨_, _, _, q⟩ := z; exact q.elim
theorem fnG_of {x : Str} {st : Stmt} {f : Addr} {fd : FuncData} {N ps : List Str} {k : Nat} {S : FS} (F : Fun K x x st f fd) (Sc : FnScope N ps (defScope st)) (len : ∀ ds μ Φ, S ds μ Φ → ds.length = ps.length)
    (body : ∀ (cdv : Value) (A : Around) (outer : List Env) (s : Shared) (H : Hp) (E : XK) (g : Hp), Rm k (A.deeper (envOfC x (defScope st) s.heap.objs.size f cdv)) → ∀ ds μ Φ, S ds μ Φ →
      wSs ⟨(cxOf CX0 P w K mg base N x (defScope st) f cdv A outer s H E).nox, g⟩ (defBody st) (rho N ds) μ { nx := fun _ μ' => Φ .non μ', rt := Φ }) : FnG P w K mg base (k + 1) f fd ps S :=
  fnG_ofC F Sc len fun cdv _ => body cdv
/-- a def whose promise is shown -/
structure KnG (P : Program) (w : World) (K : PySem.W.Frag) (mg : Str → Option Value) (base : Heap) (k : Nat) (x : Str) (ps : List Str) (S : FS) : Prop where
  ex : ∃ f fd, mg x = some (.ref f) ∧ PySem.W.keepIn K (.ref f) = true ∧ Binds K fd ps [] ∧ FnG P w K mg base k f fd ps S
theorem kn_ofG {x : Str} {st : Stmt} {N ps : List Str} {k : Nat} {S : FS} (B : Src K mg x st ps) (Sc : FnScope N ps (defScope st)) (len : ∀ ds μ Φ, S ds μ Φ → ds.length = ps.length)
    (body : ∀ (f : Addr) (cdv : Value) (A : Around) (outer : List Env) (s : Shared) (H : Hp) (E : XK) (g : Hp), Rm k (A.deeper (envOfC x (defScope st) s.heap.objs.size f cdv)) → ∀ ds μ Φ, S ds μ Φ →
      wSs ⟨(cxOf CX0 P w K mg base N x (defScope st) f cdv A outer s H E).nox, g⟩ (defBody st) (rho N ds) μ { nx := fun _ μ' => Φ .non μ', rt := Φ }) : KnG P w K mg base (k + 1) x ps S := by
  obtain ⟨f, fd, F, hm, hb⟩ := B.ex
  exact ⟨f, fd, hm, F.kp, hb, fnG_of F Sc len (body f)⟩
end
section
variable {X : Cy} {e : Expr} {es : List Expr} {ρ : Rho} {μ : Mu} {Φ : D → Mu → Prop} {pos p : Pos}
theorem w_callG {x : Str} {k k0 : Nat} {ps : List Str} {S : FS} (G : KnG X.prog X.w X.K X.mg X.base k x ps S) (hr : Rm k0 X.A) (h : wA X (e :: es) ρ μ fun ds μ1 => S ds μ1 Φ) (hk : k ≤ k0 := by decide) (hg : Gl X x := by rfl) (hdb : (x == ("__debug__" : Str)) = false := by decide)
    (he : starEach (e :: es) X.env = (false, eval e X.env) :: starEach es X.env := by rfl) (hpl : (backTo pos (starEach es X.env)).any (·.1) = false := by rfl) : wE X (.Call (.Name x p) (e :: es) [] pos) ρ μ Φ := by
  obtain ⟨f, fd, hm, kp, hb, G⟩ := G.ex
  have P1 : PE X (.Call (.Name x p) (e :: es) [] pos) fun σ H Q => sA X (e :: es) σ H fun vs H1 => spD X.K S vs H1 Q E0 := ⟨fun pins s σ H Q I h => wpAny_Call_Name_kw (ld_glob I hg hm
    (PySem.W.callWith_K (h₀ := X.base) I.ok.mod.kin kp (thn (pa_s.run pos pins s σ H _ I h) fun us s1 ⟨vs, H1, I1, r, q⟩ => ⟨I1.kIn, fnG_run G (hr.le hk) hb I1 r q⟩) he hpl) hdb)⟩
  exact fun F σ H hs sl Q kt => se_of P1 (h F σ H hs sl _ fun xs F1 H1 ds μ1 q e1 hs1 r1 => ⟨X.g, F1, ds, μ1, Φ, hs1, r1, q, kt.mono e1⟩)
/-! repr -/
mutual
/-- the data behind a value: cells as they are now -/
inductive Shw (μ : Mu) : D → PyData → Prop
  | non : Shw μ .non .none
  | bl (b : Bool) : Shw μ (.bl b) (.bool b)
  | int (i : Int) : Shw μ (.int i) (.int i)
  | str (x : Str) : Shw μ (.str x) (.str x)
  | tup {ds : List D} {ys : List PyData} : Shws μ ds ys → Shw μ (.tup ds) (.tuple ys)
  | tpl {ds : List D} {ys : List PyData} : Shws μ ds ys → Shw μ (.tpl ds) (.tuple ys)
  | lst {ds : List D} {ys : List PyData} : Shws μ ds ys → Shw μ (.lst ds) (.list ys)
  | scr {ds : List D} {ys : List PyData} : Shws μ ds ys → Shw μ (.scr ds) (.list ys)
  | ptr {q : Addr} {i : Nat} {ds : List D} {ys : List PyData} : μ[i]? = some (q, .lst ds) → Shws μ ds ys → Shw μ (.ptr q) (.list ys)
inductive Shws (μ : Mu) : List D → List PyData → Prop
  | nil : Shws μ [] []
  | cons {d : D} {ds : List D} {y : PyData} {ys : List PyData} : Shw μ d y → Shws μ ds ys → Shws μ (d :: ds) (y :: ys)
end
mutual
theorem Shw.of_still (μ : Mu) : ∀ {d : D}, D.still d = true → Shw μ d d.py
  | .non, _ => .non
  | .bl b, _ => .bl b
  | .int i, _ => .int i
  | .str x, _ => .str x
  | .tup l, h => .tup (Shws.of_still μ (by simpa [D.still] using h))
  | .tpl l, h => .tpl (Shws.of_still μ (by simpa [D.still] using h))
  | .lst l, h => .lst (Shws.of_still μ (by simpa [D.still] using h))
  | .scr l, h => .scr (Shws.of_still μ (by simpa [D.still] using h))
  | .ptr a, h => absurd h (by simp [D.still])
  | .ty a, h => absurd h (by simp [D.still])
  | .dct _ _, h => absurd h (by simp [D.still])
theorem Shws.of_still (μ : Mu) : ∀ {d : List D}, D.stills d = true → Shws μ d (D.pys d)
  | [], _ => .nil
  | d :: ds, h => by
    rw [D.stills, Bool.and_eq_true] at h
    exact .cons (Shw.of_still μ h.1) (Shws.of_still μ h.2)
end
theorem Hs.cellAt {K : KF} {F : Hp} {μ : Mu} {H : Hp} (hs : Hs K F μ H) {i : Nat} {q : Addr} {ds : List D} (h : μ[i]? = some (q, .lst ds)) : ∃ xs, H q = some (.lst xs) ∧ Reps K F xs ds := hs.lst h
mutual
theorem shw_dp {K : KF} {F : Hp} {μ : Mu} {H : Hp} (hs : Hs K F μ H) : ∀ {d : D} {y : PyData} {v : V}, Shw μ d y → Rep K F v d → Dp K H v y
  | _, _, _, .non, .non => .non
  | _, _, _, .bl b, .bl _ => .bl b
  | _, _, _, .int i, .int _ => .int i
  | _, _, _, .str x, .str _ => .str x
  | _, _, _, .tup h, .tup g r => .tup ((Evl.st_of (hs.ex _ _ g))) (shws_dp hs h r)
  | _, _, _, .tpl h, .tpl g _ _ r => .tup (.inl (.inr ⟨_, hs.ex _ _ g⟩)) (shws_dp hs h r)
  | _, _, _, .lst h, .lst g r => .lst (Evl.sq_of (hs.ex _ _ g)) (shws_dp hs h r)
  | _, _, _, .scr h, .scr g r => .lst (Evl.ex_l hs.ex g) (shws_dp hs h r)
  | _, _, _, .ptr hi h, .ptr _ => by
    obtain ⟨xs, g, r⟩ := hs.cellAt hi
    exact .lst (Evl.sq_of g) (shws_dp hs h r)
theorem shws_dp {K : KF} {F : Hp} {μ : Mu} {H : Hp} (hs : Hs K F μ H) : ∀ {d : List D} {y : List PyData} {v : List V}, Shws μ d y → Reps K F v d → DpAll K H v y
  | _, _, _, .nil, .nil => .nil
  | _, _, _, .cons h hh, .cons r rr => .cons (shw_dp hs h r) (shws_dp hs hh rr)
end
/-- repr(d) -/
theorem c_repr {d : D} (y : PyData) {k0 : Nat} (hr : Rm k0 X.A) (hd : Shw μ d y) (hnd : y.hasDict = false) (hsh : y.showable = true) (hz : y.shown.length ≤ sizeLine) (hdep : y.depth ≤ 60) (k : Φ (.str y.shown) μ) : wCl X (.builtin "repr") [d] μ Φ := by
  intro F H xs hs r1 Q kt pins s σ us I rv
  cases r1 with
  | cons r rr =>
  cases rr
  have dp := shw_dp hs hd r
  have hu := hr.units
  have q0 := kt.now k hs (.str y.shown)
  obtain ⟨u, rfl, r2⟩ := vals1 rv
  obtain ⟨as, rd⟩ := Dp.reads I y _ u dp r2
  cases rd with
  | none => exact PySem.P.repr_of_none ⟨.str _, H, I.tok _, ⟨_, rfl⟩, by simpa only [PyData.shown] using q0⟩
  | bool b => exact PySem.P.repr_of_bool ⟨.str _, H, I.tok _, ⟨_, rfl⟩, by simpa only [PyData.shown] using q0⟩
  | int i t => exact PySem.P.repr_of_int (by simpa [PyData.showable] using hsh) ⟨.str _, H, I.tok _, ⟨_, rfl⟩, by simpa only [PyData.shown] using q0⟩
  | str x t => exact PySem.P.repr_of_str ⟨.str _, H, I.tok _, ⟨_, rfl⟩, by simpa only [PyData.shown] using q0⟩ (by simpa only [PyData.shown] using hz)
  | list h1 h2 h3 h4 => exact repr_of_reads' (.list h1 h2 h3 h4) hsh (PyData.noDict_hsm hnd) hr.g (by omega) (fun _ _ e => e) (fun h' u tk hk => ⟨.str _, H, I.kept hk, ⟨_, rfl⟩, q0⟩) hz
  | tuple h1 h2 h3 h4 => exact repr_of_reads' (.tuple h1 h2 h3 h4) hsh (PyData.noDict_hsm hnd) hr.g (by omega) (fun _ _ e => e) (fun h' u tk hk => ⟨.str _, H, I.kept hk, ⟨_, rfl⟩, q0⟩) hz
  | dict h1 h2 h3 h4 h5 => simp [PyData.hasDict] at hnd
end
/-! the law's end -/
open PyProof.Rows in
theorem law_callG {P : Program} {w : World} {K : PySem.W.Frag} {mg mb : Str → Option Value} {k : Nat} {fa a : Addr} {fd : FuncData} {x : Str} {t : Shared} {vs : List Value} {ns : List Int}
    (kT : K.In t.heap) (hns : t.heap.Ns mainGlobals mg) (hb : t.heap.Ns builtinsNs mb) (hbb : ∀ y : Str, y ≠ "__name__" → mb y = bootBuiltins y) (nl : t.heap.NoLimit) (hg : t.gens = #[]) (ha : t.heap.get? a = some { cls := .type "list", data := .seq vs.toArray }) (hi : IntsAre vs ns)
    (hl : ns.length ≤ 63) (hr : Rm k callerA) (F : ∀ base : Heap, K.In base → base.Ns mainGlobals mg → FnG P w K mg base k fa fd [x] S_law) (bind : ∀ (s : Shared) (u : Value), BindsTo s fd ⟨[u], []⟩ [(x, u)]) :
    codeAny (model P w) callerA (.call (.ref fa) ⟨[.ref a], []⟩) (fun r s' => r = .ok (.ret (.bool true)) ∧ OldK t.heap s'.heap ∧ s'.os = t.os ∧ AllBare s'.gens) t := by
  have vals := vals_ints hi
  have lenV := hi.length
  have hz : ns.length ≤ sizeLine := Nat.le_trans hl (by decide)
  suffices goal : ∀ H : Hp, Only H → SqL K H a (ns.map V.int) → HOk P w H t.heap → (∀ b, H b ≠ none → b = a) → (H a ≠ none → K.lookup a = none) → codeAny (model P w) callerA (.call (.ref fa) ⟨[.ref a], []⟩) (fun r s' => r = .ok (.ret (.bool true)) ∧ OldK t.heap s'.heap ∧ s'.os = t.os ∧ AllBare s'.gens) t by
    rcases hk : K.lookup a with _ | ob
    · let H1 : Hp := fun b => if b = a then some (.frz { cls := .type "list", data := .seq vs.toArray } (.lst (ns.map V.int))) else none
      have at1 : H1 a = some (.frz { cls := .type "list", data := .seq vs.toArray } (.lst (ns.map V.int))) := if_pos rfl
      have off : ∀ b, b ≠ a → H1 b = none := fun b z => if_neg z
      refine goal H1 (fun b => ?_) (.inl (.inr ⟨_, at1⟩)) (fun b u z => ?_) (fun b z => Classical.byContradiction fun hb => z (off b hb)) fun _ => hk
      · rcases Classical.em (b = a) with rfl | hb
        · exact .inr ⟨_, _, at1⟩
        · exact .inl (off b hb)
      · rcases Classical.em (b = a) with rfl | hb
        · rw [at1] at z
          cases z
          exact ⟨ha, by rw [List.length_map]; exact hz, vs, _, vals, ha⟩
        · rw [off b hb] at z
          cases z
    · have e := kT a ob hk
      rw [ha] at e
      cases e
      exact goal (fun _ => none) (fun _ => .inl rfl) (.inr ⟨_, vs.toArray, _, hk, rfl, rfl, rfl, by rw [List.size_toArray, lenV]; exact hz, by simpa using vals⟩) (fun b u z => nomatch z) (fun b z => absurd rfl z) fun z => absurd rfl z
  intro H onl sq hok one apart
  have out : ∀ {b : Addr} {o : Obj}, t.heap.get? b = some o → H b = none → (hidT t.heap H).get? b = some o := fun e n => hidT_get e n
  have isA : ∀ {b : Addr}, ¬ H b = none → b = a := fun {b} z => one b z
  have dicts : ∀ {b : Addr} {o : Obj} {es : Array DictEntry} {ep : Nat}, t.heap.get? b = some o → o.data = .dict es ep → H b = none := fun {b o es ep} e d => Classical.byContradiction fun z => by
    rw [isA z, ha] at e
    cases e
    exact absurd (show Data.seq vs.toArray _ = Data.dict es ep from d) nofun
  have nsH : ∀ {b : Addr} {m : Str → Option Value}, t.heap.Ns b m → (hidT t.heap H).Ns b m := fun {b m} ⟨o, es, ep, e, d, r⟩ => ⟨o, es, ep, out e (dicts e d), d, r⟩
  have kH : K.In (hidT t.heap H) := fun b o e => out (kT b o e) (Classical.byContradiction fun z => by
    have eb := isA z
    rw [eb] at z e
    rw [apart z] at e
    cases e)
  have md : Mod K mg (hidT t.heap H) := ⟨kH, nsH hns, ⟨mb, nsH hb, hbb⟩, let ⟨mc, h1, h2⟩ := nl; ⟨mc, nsH h1, h2⟩⟩
  have e0 : Env0 P w K mg (hidT t.heap H) callerA [] t H := ⟨rfl, md, fun b o e => of_hidT e, Nat.le_of_eq (hidT_size _ _), trivial, fun b hb => (nomatch hb), hok, AllBare.of_eq hg⟩
  refine codeAny_mono ((F _ kH (nsH hns)).run callerA [] t H ⟨[.ref a], []⟩ [.ref a] [.ref a] (fun v _ => v = .bl true) hr e0 (bind t (.ref a)) (.cons rfl .nil) (law_end sq hl fun _ => rfl)) fun r s' h => ?_
  rcases r with e | fl
  · exact h.elim
  · cases fl with
    | ret u =>
      obtain ⟨v, H', os, bare, un, hok', r', q⟩ := h
      obtain rfl : v = .bl true := q
      obtain rfl : u = Value.bool true := r'
      refine ⟨rfl, OldK.of_keep fun b o e => ?_, os, bare⟩
      rcases onl b with z | ⟨ob, xs, z⟩
      · exact un.keep b o e z (fun z => nomatch z) (fun z => nomatch z)
      · have g1 := (hok b _ z).1
        rw [e] at g1
        cases g1
        exact (hok' b _ (un.frzs b _ _ z)).1
    | next => exact h.elim
    | brk => exact h.elim
    | cont => exact h.elim
theorem walk_ofG {l : PySem.W.OpenLaw} {k : Nat} {q : Program} {loose : List Str} {XP : (Str → Option Value) → Heap → Prop} {YP : World → Heap → Prop} {d : DefRec} {K : Params → PySem.W.Frag} {x : Str} (hn : l.most = some 63) (hdf : d.params.defaults = []) (hr : Room k callerA)
    (hY : ∀ (w : World) (h : Heap), YP w h → (K w.params).In h)
    (F : ∀ (w : World) (mg : Str → Option Value) (fa : Addr) (h : Heap), (K w.params).In h → h.Ns mainGlobals mg → mg d.name = some (.ref fa) →
      ∃ fd : FuncData, (∀ (s : Shared) (u : Value), BindsTo s fd ⟨[u], []⟩ [(x, u)]) ∧ ∀ base : Heap, (K w.params).In base → base.Ns mainGlobals mg → FnG l.prog w (K w.params) mg base k fa fd [x] S_law) :
    PySem.W.WalkO q loose XP YP l.row.toRowW d [] (fun f vs => PySem.call f vs) := by
  refine Att.attach_call hn hdf fun w s₀ t mg mb fa o pm cd doc a vs ns G Y ho hd hcd hmg hobj hints hlen hg => ?_
  obtain ⟨fd, hb, hF⟩ := F w mg fa _ (hY w _ Y) G.T.g hmg
  exact law_callG (hY w _ Y) G.T.g G.T.b G.T.builtins G.T.nolimit hg hobj hints hlen ⟨hr, rfl⟩ hF hb
end Oc

/-! Own layer: slices, a store into a list, sorted. -/
namespace Oc
open PySem PySem.Spec L2
open Evl (Ex)
section
variable {X : Cy} {e o i : Expr} {lo hi : Option Expr} {es : List Expr} {ρ : Rho} {μ : Mu} {Φ : D → Mu → Prop} {E : En} {pos p p2 : Pos}
/-- a slice's part -/
def wO (X : Cy) (o : Option Expr) (ρ : Rho) (μ : Mu) (Φ : Option Int → Mu → Prop) : Prop := match o with
  | none => Φ none μ
  | some e => wE X e ρ μ fun d μ1 => ∃ i, d = .int i ∧ Φ (some i) μ1
def tO (X : Cy) (o : Option Expr) : TO := match o with
  | none => tNoPart
  | some e => tPart (sE X e)
theorem po_s {o : Option Expr} : PO X o (tO X o) := match o with
  | none => po_none
  | some e => po_some pe_s
theorem wO_go {o : Option Expr} {Ψ : Option Int → Mu → Prop} (h : wO X o ρ μ Ψ) {F H : Hp} {σ : L2.St} (hs : Hs X.K F μ H) (sl : Sl X.K F ρ σ) {Q : Option Int → Hp → Prop} (q : ∀ i F' H' μ', Ψ i μ' → Ex F F' → Hs X.K F' μ' H' → Q i H') : tO X o σ H Q := by
  cases o with
  | none => exact q _ F H μ h (Ex.refl F) hs
  | some e =>
    refine h F σ H hs sl _ ?_
    rintro v F1 H1 d μ1 ⟨i, rfl, z⟩ e1 hs1 r1
    cases r1
    exact ⟨i, rfl, q _ F1 H1 μ1 z e1 hs1⟩
/-- the items of xs[lo:hi] -/
def cutD (xs : List D) (lo hi : Option Int) : List D := (xs.drop (HT.sIx xs.length 0 lo)).take (HT.sIx xs.length xs.length hi - HT.sIx xs.length 0 lo)
theorem cut_reps {K : PySem.W.Frag} {F : Hp} {v : List V} {d : List D} (r : Reps K F v d) (a b : Option Int) : Reps K F (cutV v a b) (cutD d a b) := by
  unfold cutV cutD
  rw [r.length]
  exact (r.drop _).take _
theorem cutD_to (xs : List D) (n : Nat) : cutD xs none (some (n : Int)) = xs.take n := by
  unfold cutD
  rw [HT.sIx_nat, HT.sIx_none, List.drop_zero, Nat.sub_zero]
  rcases Nat.le_total n xs.length with h | h
  · rw [Nat.min_eq_left h]
  · rw [Nat.min_eq_right h, List.take_of_length_le (Nat.le_refl _), List.take_of_length_le h]
theorem cutD_from (xs : List D) (n : Nat) : cutD xs (some (n : Int)) none = xs.drop n := by
  unfold cutD
  rw [HT.sIx_nat, HT.sIx_none]
  rcases Nat.le_total n xs.length with h | h
  · rw [Nat.min_eq_left h, List.take_of_length_le (by rw [List.length_drop]; exact Nat.le_refl _)]
  · rw [Nat.min_eq_right h, List.drop_of_length_le (Nat.le_refl _), List.drop_of_length_le h, List.take_nil]
theorem cutD_fromTo (xs : List D) (m n : Nat) (hm : m ≤ xs.length) (hn : n ≤ xs.length) : cutD xs (some (m : Int)) (some (n : Int)) = (xs.drop m).take (n - m) := by
  unfold cutD
  rw [HT.sIx_nat, HT.sIx_nat, Nat.min_eq_left hm, Nat.min_eq_left hn]
theorem wo_none {Ψ : Option Int → Mu → Prop} (h : Ψ none μ) : wO X none ρ μ Ψ := h
theorem wo_some {Ψ : Option Int → Mu → Prop} (h : wE X e ρ μ fun d μ1 => ∃ i, d = .int i ∧ Ψ (some i) μ1) : wO X (some e) ρ μ Ψ := h
/-- what a slice is of -/
def slD (d : D) (a b : Option Int) (μ : Mu) (Φ : D → Mu → Prop) : Prop := match d with
  | .tup ds => Φ (.tup (cutD ds a b)) μ
  | .tpl ds => Φ (.tup (cutD ds a b)) μ ∧ (cutD ds a b = ds → Φ (.tpl ds) μ)
  | .lst ds => Φ (.lst (cutD ds a b)) μ
  | .scr ds => Φ (.lst (cutD ds a b)) μ
  | .str x => x.length ≤ 16777216 ∧ Φ (.str (cutS x a b)) μ
  | .ptr q => ∃ (m : Nat) (ds : List D), μ[m]? = some (q, MO.lst ds) ∧ ∀ p, Φ (.ptr p) ((p, .lst (cutD ds a b)) :: μ)
  | _ => False
theorem sd_tup {ds : List D} {a b : Option Int} (k : Φ (.tup (cutD ds a b)) μ) : slD (.tup ds) a b μ Φ := k
theorem sd_tpl {ds : List D} {a b : Option Int} (hn : cutD ds a b ≠ ds) (k : Φ (.tup (cutD ds a b)) μ) : slD (.tpl ds) a b μ Φ := ⟨k, fun h => absurd h hn⟩
theorem sd_lst {ds : List D} {a b : Option Int} (k : Φ (.lst (cutD ds a b)) μ) : slD (.lst ds) a b μ Φ := k
theorem sd_str {x : Str} {a b : Option Int} (hz : x.length ≤ 16777216) (k : Φ (.str (cutS x a b)) μ) : slD (.str x) a b μ Φ := ⟨hz, k⟩
theorem sd_ptr {q : Addr} {ds : List D} {a b : Option Int} (m : Nat) (hm : μ[m]? = some (q, MO.lst ds)) (k : ∀ p, Φ (.ptr p) ((p, .lst (cutD ds a b)) :: μ)) : slD (.ptr q) a b μ Φ := ⟨m, ds, hm, k⟩
/-- an item of a written list of ints -/
theorem ix_lit (l : List Int) {r : Int} (h0 : 0 ≤ r) (h1 : r < l.length) (k : ∀ x, x ∈ l → Φ (.int x) μ) : wIx X (.lst (l.map D.int)) (.int r) μ Φ := by
  have h2 : r.toNat < l.length := by omega
  exact ix_lstD r.toNat (by omega) (by rw [List.getElem?_map, List.getElem?_eq_getElem h2]; rfl) (k _ (List.getElem_mem h2))
theorem ix_litT (l : List Int) {r : Int} (h0 : 0 ≤ r) (h1 : r < l.length) (k : ∀ x, x ∈ l → Φ (.int x) μ) : wIx X (.tup (l.map D.int)) (.int r) μ Φ := by
  have h2 : r.toNat < l.length := by omega
  exact ix_tupD r.toNat (by omega) (by rw [List.getElem?_map, List.getElem?_eq_getElem h2]; rfl) (k _ (List.getElem_mem h2))
theorem cut_whole {K : PySem.W.Frag} {F : Hp} {v : List V} {d : List D} (r : Reps K F v d) {a b : Option Int} (h : HT.sIx v.length 0 a = 0 ∧ HT.sIx v.length v.length b = v.length) : cutD d a b = d := by
  unfold cutD
  rw [← r.length, h.1, h.2, List.drop_zero, Nat.sub_zero, r.length, List.take_of_length_le (Nat.le_refl _)]
theorem w_sl (h : wE X e ρ μ fun d μ1 => wO X lo ρ μ1 fun a μ2 => wO X hi ρ μ2 fun b μ3 => slD d a b μ3 Φ) : wE X (.Subscript e (.Slice lo hi none p2) pos) ρ μ Φ := fun F σ H hs sl Q kt =>
  se_of (pe_slice (sl_tupA.or (sl_list.or sl_str)) pe_s po_s po_s) (h F σ H hs sl _ fun v F1 H1 d μ1 z1 e1 hs1 r1 => wO_go z1 hs1 (sl.mono e1) fun a F2 H2 μ2 z2 e2 hs2 => wO_go z2 hs2 (sl.mono (e1.trans e2)) fun b F3 H3 μ3 z3 e3 hs3 => by
    have r3 := r1.mono (e2.trans e3)
    have kt3 := kt.mono (e1.trans (e2.trans e3))
    cases r3 with
    | tup g r => exact .inl ⟨_, _, rfl, (Evl.st_of (hs3.ex _ _ g)), fun hw => by rw [slD, cut_whole r hw] at z3; exact kt3.now z3 hs3 (.tup g r), fun _ q hq => by
        obtain ⟨g1, g2⟩ := hs3.laid (u := .tup (cutV _ a b)) hq
        exact kt3 _ _ _ _ _ z3 g2 g1 (.tup upd_same ((cut_reps r a b).mono g2))⟩
    | tpl g hc hd r => exact .inl ⟨_, _, rfl, .inl (.inr ⟨_, hs3.ex _ _ g⟩), fun hw => kt3.now (z3.2 (cut_whole r hw)) hs3 (.tpl g hc hd r), fun _ q hq => by
        obtain ⟨g1, g2⟩ := hs3.laid (u := .tup (cutV _ a b)) hq
        exact kt3 _ _ _ _ _ z3.1 g2 g1 (.tup upd_same ((cut_reps r a b).mono g2))⟩
    | lst g r => exact .inr (.inl ⟨_, _, rfl, Evl.sq_of (hs3.ex _ _ g), fun q hq => by
        obtain ⟨g1, g2⟩ := hs3.laid (u := .lst (cutV _ a b)) hq
        exact kt3 _ _ _ _ _ z3 g2 g1 (.lst upd_same ((cut_reps r a b).mono g2))⟩)
    | scr g r => exact .inr (.inl ⟨_, _, rfl, Evl.ex_l hs3.ex g, fun q hq => by
        obtain ⟨g1, g2⟩ := hs3.laid (u := .lst (cutV _ a b)) hq
        exact kt3 _ _ _ _ _ z3 g2 g1 (.lst upd_same ((cut_reps r a b).mono g2))⟩)
    | str x => exact .inr (.inr ⟨x, rfl, z3.1, kt3.now z3.2 hs3 (.str _)⟩)
    | ptr q =>
      obtain ⟨m, ds, hm, z⟩ := z3
      obtain ⟨xs, g, r⟩ := hs3.lst hm
      exact .inr (.inl ⟨_, xs, rfl, Evl.sq_of g, fun q hq => kt3 _ _ _ _ _ (z q) (Ex.refl _) (hs3.cell hq (.lst (cut_reps r a b))) (.ptr q)⟩)
    | _ => exact False.elim z3)
/-- xs[i] = v -/
theorem w_lset (h : wE X e ρ μ fun d μ0 => wE X o ρ μ0 fun d1 μ1 => wE X i ρ μ1 fun d2 μ2 => ∃ (q : Addr) (m : Nat) (ds : List D) (n : Nat), d1 = .ptr q ∧ d2 = .int n ∧ μ2[m]? = some (q, MO.lst ds) ∧ n < ds.length ∧ E.nx ρ (μ2.set m (q, .lst (ds.set n d))))
    (hs : swapsWithSole [.Subscript o i p] e pos.line X.env = pure false := by rfl) (hw : swappedStores [.Subscript o i p] e X.env = pure none := by rfl)
    (ha : ∀ v, assign (.Subscript o i p) X.env v = (do let ov ← holding [v] (eval o X.env); let iv ← holding [v, ov] (eval i X.env); standAt p; holding [v, ov, iv] (setItem ov iv v); release [v, ov, iv] []) := by intro _; rfl)
    (h1 : (assignEach [.Subscript o i p] X.env).map (·.2) = [assign (.Subscript o i p) X.env] := by rfl) : wS X (.Assign [.Subscript o i p] e pos) ρ μ E := fun F σ H hh sl D kt =>
  ss_of (ps_asg pe_s (pg_sub pe_s pe_s set_list ha) hs hw h1) (h F σ H hh sl _ fun v F0 H0 d μ0 z0 e0 hs0 r0 => binW (R := fun x y H2 => rSetL x y v H2 fun H3 => D.nx σ H3) z0 hs0 (sl.mono e0) fun x y F2 H2 d1 d2 μ2 ⟨q, m, ds, n, g1, g2, hm, hn, z⟩ e2 hs2 r1 r2 => by
    subst g1
    subst g2
    cases r1
    cases r2
    obtain ⟨xs, g, rx⟩ := hs2.lst hm
    have hn' : n < xs.length := by rw [rx.length]; exact hn
    refine ⟨q, xs, n, n, rfl, rfl, g, ?_, kt.nx F2 _ σ ρ _ z (e0.trans e2) (hs2.write hm (.lst (Reps.set (r0.mono e2) n rx))) (sl.mono (e0.trans e2))⟩
    unfold ixN
    rw [if_pos (by omega), if_pos (by omega), Int.toNat_natCast])
/-- sorted(xs) of ints -/
theorem c_sortedI {ns : List Int} {d : D} (hd : d = .lst (ns.map D.int) ∨ d = .scr (ns.map D.int) ∨ ∃ (m : Nat) (q : Addr), d = .ptr q ∧ μ[m]? = some (q, MO.lst (ns.map D.int))) (k : ∀ ns' : List Int, ns'.Perm ns → ns'.Pairwise (· ≤ ·) → Φ (.lst (ns'.map D.int)) μ) : wCl X (.builtin "sorted") [d] μ Φ :=
  wcl_of cr_sortedI fun F H xs hs r1 Q kt => by
  cases r1 with
  | cons r rr =>
  cases rr
  have fin : ∀ a, SqL X.K H a (ns.map V.int) → rSortedI X.K [.ref a] H Q := fun a g => ⟨a, ns, rfl, g, fun ns' q h1 h2 hq => by
    obtain ⟨g1, g2⟩ := hs.laid (u := .lst (ns'.map V.int)) hq
    exact kt _ _ _ _ _ (k ns' h1 h2) g2 g1 (.lst upd_same (reps_map (fun n => .int n) ns'))⟩
  rcases hd with hd | hd | ⟨m, q, hd, hm⟩
  · subst hd
    cases r with
    | lst g r => exact fin _ (by rw [← reps_ints r]; exact Evl.sq_of (hs.ex _ _ g))
  · subst hd
    cases r with
    | scr g r => exact fin _ (by rw [← reps_ints r]; exact Evl.ex_l hs.ex g)
  · subst hd
    cases r
    obtain ⟨xs, g, r⟩ := hs.lst hm
    exact fin _ (by rw [← reps_ints r]; exact Evl.sq_of g)
end
end Oc

/-! Own layer: small data (repr fits), tuple times a number. -/
namespace Oc
open PySem PySem.Spec L2
open Evl (Ex)
/-! ### small data -/
structure Tm (y : PyData) (b d : Nat) : Prop where
  nd : y.hasDict = false
  sh : y.showable = true
  lv : y.leavesShort 13 = true
  bk : y.bulk ≤ b
  dp : y.depth ≤ d
structure Tms (ys : List PyData) (b d : Nat) : Prop where
  nd : PyData.hasDictAll ys = false
  sh : PyData.showableAll ys = true
  lv : PyData.leavesShortAll 13 ys = true
  bk : PyData.bulkAll ys ≤ b
  dp : PyData.depthAll ys ≤ d
theorem Tm.mono {y : PyData} {b d b' d' : Nat} (h : Tm y b d) (hb : b ≤ b') (hd : d ≤ d') : Tm y b' d' := ⟨h.nd, h.sh, h.lv, Nat.le_trans h.bk hb, Nat.le_trans h.dp hd⟩
theorem Tms.mono {y : List PyData} {b d b' d' : Nat} (h : Tms y b d) (hb : b ≤ b') (hd : d ≤ d') : Tms y b' d' := ⟨h.nd, h.sh, h.lv, Nat.le_trans h.bk hb, Nat.le_trans h.dp hd⟩
theorem Tm.non : Tm .none 0 0 := ⟨rfl, rfl, rfl, Nat.le_refl _, Nat.le_refl _⟩
theorem Tm.bl (b : Bool) : Tm (.bool b) 0 0 := ⟨rfl, rfl, rfl, Nat.le_refl _, Nat.le_refl _⟩
theorem log_small {i : Int} (h : -999999999999 ≤ i ∧ i ≤ 999999999999) : i.natAbs.log2 < 1920 := by
  by_cases h0 : i.natAbs = 0
  · rw [h0]; decide
  · exact Nat.lt_of_lt_of_le ((Nat.log2_lt h0).mpr (show i.natAbs < 2 ^ 40 by omega)) (by decide)
theorem Tm.int {i : Int} (h : -999999999999 ≤ i ∧ i ≤ 999999999999) : Tm (.int i) 0 0 :=
  ⟨rfl, by simp only [PyData.showable, decide_eq_true_eq]; exact log_small h, by simp only [PyData.leavesShort, decide_eq_true_eq]; exact PySem.PyData.shown_int_le2 h.1 h.2, Nat.le_refl _, Nat.le_refl _⟩
theorem Tm.str {x : Str} (n : Nat) (h : x.cps.size ≤ n) (hc : ∀ c ∈ x.cps.toList, c < 16 ^ 8) : Tm (.str x) n 0 :=
  ⟨rfl, rfl, by simp only [PyData.leavesShort, List.all_eq_true, decide_eq_true_eq]; exact hc, by simp only [PyData.bulk]; exact h, Nat.le_refl _⟩
theorem Tms.nil : Tms [] 0 0 := ⟨rfl, rfl, rfl, Nat.le_refl _, Nat.le_refl _⟩
theorem Tms.cons {y : PyData} {ys : List PyData} {b c d e : Nat} (h : Tm y b d) (t : Tms ys c e) : Tms (y :: ys) (b + 1 + c) (max d e) :=
  ⟨by simp only [PyData.hasDictAll, h.nd, t.nd, Bool.or_self], by simp only [PyData.showableAll, h.sh, t.sh, Bool.and_self], by simp only [PyData.leavesShortAll, h.lv, t.lv, Bool.and_self],
    by simp only [PyData.bulkAll]; have := h.bk; have := t.bk; omega, by simp only [PyData.depthAll]; have := h.dp; have := t.dp; omega⟩
theorem Tms.all {b d : Nat} : ∀ {ys : List PyData}, (∀ y ∈ ys, Tm y b d) → Tms ys ((b + 1) * ys.length) d
  | [], _ => Tms.nil.mono (Nat.le_refl _) (Nat.zero_le _)
  | y :: ys, h => by
    refine (Tms.cons (h y List.mem_cons_self) (Tms.all fun z hz => h z (List.mem_cons_of_mem _ hz))).mono ?_ (by omega)
    rw [List.length_cons, Nat.mul_succ]
    omega
theorem Tm.tup {ys : List PyData} {b d : Nat} (h : Tms ys b d) : Tm (.tuple ys) b (d + 1) :=
  ⟨by simp only [PyData.hasDict]; exact h.nd, by simp only [PyData.showable]; exact h.sh, by simp only [PyData.leavesShort]; exact h.lv, by simp only [PyData.bulk]; exact h.bk, by simp only [PyData.depth]; have := h.dp; omega⟩
theorem Tm.lst {ys : List PyData} {b d : Nat} (h : Tms ys b d) : Tm (.list ys) b (d + 1) :=
  ⟨by simp only [PyData.hasDict]; exact h.nd, by simp only [PyData.showable]; exact h.sh, by simp only [PyData.leavesShort]; exact h.lv, by simp only [PyData.bulk]; exact h.bk, by simp only [PyData.depth]; have := h.dp; omega⟩
theorem Shws.map {α : Type} {μ : Mu} {f : α → D} {g : α → PyData} (h : ∀ a, Shw μ (f a) (g a)) : ∀ l : List α, Shws μ (l.map f) (l.map g)
  | [] => .nil
  | a :: l => .cons (h a) (Shws.map h l)
theorem Tms.map {α : Type} {g : α → PyData} {b d : Nat} {l : List α} (h : ∀ a ∈ l, Tm (g a) b d) : Tms (l.map g) ((b + 1) * l.length) d := by
  have := Tms.all (ys := l.map g) (b := b) (d := d) fun y hy => by
    obtain ⟨a, ha, rfl⟩ := List.mem_map.mp hy
    exact h a ha
  rwa [List.length_map] at this
section
variable {X : Cy} {μ : Mu} {Φ : D → Mu → Prop}
/-- repr of small data -/
theorem c_reprT {d : D} (y : PyData) {k0 b e : Nat} (hr : Rm k0 X.A) (hd : Shw μ d y) (t : Tm y b e) (k : Φ (.str y.shown) μ) (hb : b ≤ 1048576 := by decide) (he : e ≤ 60 := by decide) : wCl X (.builtin "repr") [d] μ Φ :=
  c_repr y hr hd t.nd t.sh (PyData.shown_fits_bulk (B := 13) (by decide) (by decide) t.lv (Nat.le_trans t.bk (by omega))) (Nat.le_trans t.dp he) k
end
/-! ### t * n -/
theorem tuple_mul_1 (l : Addr) (items : Array Value) (n : Nat) (dd : Option Addr) (sl : Array (Option Value)) (u : Tok) :
    Meets (Builtin.«tuple.__mul__» ⟨[.ref l, .int 1 u], []⟩) (fun _ R s => s.heap.get? l = some { cls := .type "tuple", dict := dd, data := .seq items n, slots := sl } ∧ R (.ok (.ret (Value.ref l))) s) :=
  .of_wp fun prog w A R s h => by
    obtain ⟨hp, g, d, tk, os⟩ := s
    obtain ⟨hl, h⟩ := h
    have f1 := AutoSeq1.idx_int
    have c1 : (items.isEmpty || (1 : Int) == 1) = true := by simp
    wp_walk using wpAny_loadPart' hl
    all_goals exact ⟨_, rfl, h⟩
theorem tuple_mul_0 (l : Addr) (items : Array Value) (n : Nat) (dd : Option Addr) (sl : Array (Option Value)) (u : Tok) (hi : items.isEmpty = false) :
    Meets (Builtin.«tuple.__mul__» ⟨[.ref l, .int 0 u], []⟩) (fun _ R s => s.heap.get? l = some { cls := .type "tuple", dict := dd, data := .seq items n, slots := sl } ∧
      R (.ok (.ret (Value.ref s.heap.objs.size))) { s with heap := s.heap.push { cls := Value.type "tuple", data := Data.seq #[] }, toks := s.toks }) :=
  .of_wp fun prog w A R s h => by
    obtain ⟨hp, g, d, tk, os⟩ := s
    obtain ⟨hl, h⟩ := h
    have f1 := AutoSeq1.idx_int
    have c1 : (items.isEmpty || (0 : Int) == 1) = false := by rw [hi]; decide
    wp_walk using wpAny_loadPart' hl
    repeat (first
      | (refine wpAny_ite_false (decide_eq_false (by rw [c1]; exact Bool.false_ne_true)) ?_; wp_walk using wpAny_loadPart' hl)
      | (refine wpAny_ite_true (decide_eq_true (by simp)) ?_; wp_walk using wpAny_loadPart' hl))
    all_goals exact ⟨_, rfl, h⟩
/-- t * 0, t * 1 -/
def rRep01 (K : PySem.W.Frag) : R2 := fun x y H Q => ∃ l xs, x = .ref l ∧ SqT K H l xs ∧ xs ≠ [] ∧ ((y = .int 1 ∧ Q (.ref l) H) ∨ (y = .int 0 ∧ ∀ p, H p = none → Q (.ref p) (upd H p (.tup []))))
theorem op_rep01 {X : Cy} : OpR X (binaryOp .Mult) (rRep01 X.K) := by
  intro pins s σ H x y v u Q I rx ry h
  obtain ⟨l, xs, rfl, hT, hne, h⟩ := h
  cases rx
  obtain ⟨its, r, ⟨⟨cls, dd, data, sl⟩, ho, hc, n, hd⟩, hs⟩ := I.tuple hT
  simp only at hc hd
  subst hc hd
  have hn : its ≠ [] := fun e => hne (List.eq_nil_of_length_eq_zero (by rw [r.length, e]; rfl))
  have hi : its.toArray.isEmpty = false := by
    cases its with
    | nil => exact absurd rfl hn
    | cons a b => rfl
  rcases h with ⟨rfl, q⟩ | ⟨rfl, q⟩
  · obtain ⟨t, rfl⟩ := ry
    exact wpAny_binaryOp_repeat_ref (T := "tuple") (U := "int") (by decide) ⟨_, ho, rfl⟩ (fun s' => PySem.typeIs_int s' 1 t) noFill_tuple_mul PySem.F.fills_int_mul PySem.F.slot_int_rmul repeat_tuple PySem.F.slot_int_index.lookup
      (PySem.call_meets PySem.F.slot_int_rmul (PySem.typeIs_int s 1 t) PySem.F.entry_int_rmul (PySem.F.args_int_rmul_2 _ _) (int_rmul_tuple 1 t l its.toArray n dd sl)
        ⟨ho, rfl, ⟨_, ho, rfl⟩, PySem.call_meets PySem.F.slot_tuple_mul ⟨_, ho, rfl⟩ PySem.F.entry_tuple_mul (PySem.F.args_tuple_mul_2 _ _) (tuple_mul_1 l its.toArray n dd sl t) ⟨ho, ⟨.ref l, H, I, rfl, q⟩⟩⟩)
  · obtain ⟨t, rfl⟩ := ry
    refine wpAny_binaryOp_repeat_ref (T := "tuple") (U := "int") (by decide) ⟨_, ho, rfl⟩ (fun s' => PySem.typeIs_int s' 0 t) noFill_tuple_mul PySem.F.fills_int_mul PySem.F.slot_int_rmul repeat_tuple PySem.F.slot_int_index.lookup
      (PySem.call_meets PySem.F.slot_int_rmul (PySem.typeIs_int s 0 t) PySem.F.entry_int_rmul (PySem.F.args_int_rmul_2 _ _) (int_rmul_tuple 0 t l its.toArray n dd sl)
        ⟨ho, rfl, ⟨_, ho, rfl⟩, PySem.call_meets PySem.F.slot_tuple_mul ⟨_, ho, rfl⟩ PySem.F.entry_tuple_mul (PySem.F.args_tuple_mul_2 _ _) (tuple_mul_0 l its.toArray n dd sl t hi) ⟨ho, ?_⟩⟩)
    exact ⟨.ref s.heap.objs.size, _, I.laid (t' := s.toks) (o := .tup []) (fun b ob q => Heap.get?_push_of_some _ q) (Nat.le_refl _) ⟨Nat.zero_le _, [], .nil, PyProof.Rows.IsTup.new _ _⟩, rfl, q _ (I.hok.fresh (Nat.le_refl _))⟩
section
variable {X : Cy} {μ : Mu} {Φ : D → Mu → Prop}
theorem Reps.rep {K : PySem.W.Frag} {F : Hp} {v : List V} {d : List D} (r : Reps K F v d) : ∀ n : Nat, Reps K F (List.replicate n v).flatten (List.replicate n d).flatten
  | 0 => .nil
  | n + 1 => by
    rw [List.replicate_succ, List.replicate_succ, List.flatten_cons, List.flatten_cons]
    exact r.append (Reps.rep r n)
theorem o_repT {ds : List D} {k : Int} (hk : 0 ≤ k ∧ k ≤ 1000) (hne : ds ≠ []) (hz : ds.length ≤ 1000) (q : Φ (.tup (List.replicate k.toNat ds).flatten) μ) : wOp X (binaryOp .Mult) (.tup ds) (.int k) μ Φ := by
  by_cases h2 : 2 ≤ k
  · refine wop_of op_repT fun F H x y hs r1 r2 Q kt => ?_
    cases r2
    cases r1 with
    | tup g r =>
      refine ⟨_, k, _, rfl, rfl, (Evl.st_of (hs.ex _ _ g)), fun e => hne (List.eq_nil_of_length_eq_zero (by rw [← r.length, e]; rfl)), h2, hk.2, by rw [r.length]; exact hz, fun p hp => ?_⟩
      obtain ⟨g1, g2⟩ := hs.laid (u := .tup (List.replicate k.toNat _).flatten) hp
      exact kt _ _ _ _ _ q g2 g1 (.tup upd_same ((Reps.rep r _).mono g2))
  · refine wop_of op_rep01 fun F H x y hs r1 r2 Q kt => ?_
    cases r2
    cases r1 with
    | tup g r =>
      refine ⟨_, _, rfl, (Evl.st_of (hs.ex _ _ g)), fun e => hne (List.eq_nil_of_length_eq_zero (by rw [← r.length, e]; rfl)), ?_⟩
      by_cases h1 : k = 1
      · subst h1
        refine .inl ⟨rfl, kt.now (by simpa using q) hs (.tup g r)⟩
      · obtain rfl : k = 0 := by omega
        refine .inr ⟨rfl, fun p hp => ?_⟩
        obtain ⟨g1, g2⟩ := hs.laid (u := .tup []) hp
        exact kt _ _ _ _ _ q g2 g1 (.tup upd_same .nil)
end
end Oc

/-! Own layer: `is` of truths; == of data that can be laid. -/
namespace Oc
open PySem PySem.Spec L2
open Evl (Ex)
structure Ly (d : D) (n : Nat) : Prop where
  st : D.still d = true
  lay : d.py.canLay0 = true
  dp : d.py.depth ≤ n
structure Lys (ds : List D) (n : Nat) : Prop where
  st : D.stills ds = true
  lay : PyData.canLayAll0 (D.pys ds) = true
  dp : PyData.depthAll (D.pys ds) ≤ n
theorem Ly.mono {d : D} {n m : Nat} (h : Ly d n) (hn : n ≤ m) : Ly d m := ⟨h.st, h.lay, Nat.le_trans h.dp hn⟩
theorem Lys.mono {d : List D} {n m : Nat} (h : Lys d n) (hn : n ≤ m) : Lys d m := ⟨h.st, h.lay, Nat.le_trans h.dp hn⟩
theorem Ly.non : Ly .non 0 := ⟨by simp only [D.still], by simp only [D.py, PyData.canLay0], by simp only [D.py, PyData.depth]; exact Nat.le_refl _⟩
theorem Ly.int (i : Int) : Ly (.int i) 0 := ⟨by simp only [D.still], by simp only [D.py, PyData.canLay0], by simp only [D.py, PyData.depth]; exact Nat.le_refl _⟩
theorem Ly.bl (i : Bool) : Ly (.bl i) 0 := ⟨by simp only [D.still], by simp only [D.py, PyData.canLay0], by simp only [D.py, PyData.depth]; exact Nat.le_refl _⟩
theorem Lys.nil : Lys [] 0 := ⟨by simp only [D.stills], by simp only [D.pys, PyData.canLayAll0], by simp only [D.pys, PyData.depthAll]; exact Nat.le_refl _⟩
theorem Lys.cons {d : D} {ds : List D} {n m : Nat} (h : Ly d n) (t : Lys ds m) : Lys (d :: ds) (max n m) := ⟨by simp only [D.stills, h.st, t.st, Bool.and_self], by simp only [D.pys, PyData.canLayAll0, h.lay, t.lay, Bool.and_self], by
  simp only [D.pys, PyData.depthAll]; have := h.dp; have := t.dp; omega⟩
theorem Lys.all {n : Nat} : ∀ {ds : List D}, (∀ d ∈ ds, Ly d n) → Lys ds n
  | [], _ => Lys.nil.mono (Nat.zero_le _)
  | d :: ds, h => (Lys.cons (h d List.mem_cons_self) (Lys.all fun e he => h e (List.mem_cons_of_mem _ he))).mono (by omega)
theorem Ly.tup {ds : List D} {n : Nat} (h : Lys ds n) : Ly (.tup ds) (n + 1) := ⟨by simp only [D.still]; exact h.st, by simp only [D.py, PyData.canLay0]; exact h.lay, by simp only [D.py, PyData.depth]; have := h.dp; omega⟩
theorem Ly.lst {ds : List D} {n : Nat} (h : Lys ds n) : Ly (.lst ds) (n + 1) := ⟨by simp only [D.still]; exact h.st, by simp only [D.py, PyData.canLay0]; exact h.lay, by simp only [D.py, PyData.depth]; have := h.dp; omega⟩
theorem Lys.map {α : Type} {f : α → D} {n : Nat} {l : List α} (h : ∀ a ∈ l, Ly (f a) n) : Lys (l.map f) n := Lys.all fun d hd => by
  obtain ⟨a, ha, rfl⟩ := List.mem_map.mp hd
  exact h a ha
theorem Ly.shaped {d : D} {n : Nat} (h : Ly d n) (hn : n ≤ 64) : SeqAt.shaped d.py = true := by
  unfold SeqAt.shaped
  rw [h.lay, Bool.true_and]
  exact decide_eq_true (Nat.le_trans h.dp hn)
section
variable {X : Cy} {μ : Mu} {Φ : D → Mu → Prop} {d1 d2 : D} {n m : Nat}
theorem o_eqY (hu : X.c.A.units + 64 < cLine) (h1 : Ly d1 n) (h2 : Ly d2 m) (k : Φ (.bl (PyData.eqv d1.py d2.py)) μ) (hn : n ≤ 64 := by decide) (hm : m ≤ 64 := by decide) : wOp X (compareOp .Eq) d1 d2 μ Φ := o_eqD hu h1.st h2.st (h1.shaped hn) (h2.shaped hm) k
theorem o_neY (hu : X.c.A.units + 64 < cLine) (h1 : Ly d1 n) (h2 : Ly d2 m) (k : Φ (.bl (!PyData.eqv d1.py d2.py)) μ) (hn : n ≤ 64 := by decide) (hm : m ≤ 64 := by decide) : wOp X (compareOp .NotEq) d1 d2 μ Φ := o_neD hu h1.st h2.st (h1.shaped hn) (h2.shaped hm) k
theorem eqv_same {d : D} {n : Nat} (h : Ly d n) : PyData.eqv d.py d.py = true := SeqAt.eqv_refl _ h.lay
/-- the same data on both sides -/
theorem o_eqS (hu : X.c.A.units + 64 < cLine) (h1 : Ly d1 n) (k : Φ (.bl true) μ) (hn : n ≤ 64 := by decide) : wOp X (compareOp .Eq) d1 d1 μ Φ := o_eqY hu h1 h1 (by rw [eqv_same h1]; exact k) hn hn
theorem o_neS (hu : X.c.A.units + 64 < cLine) (h1 : Ly d1 n) (k : Φ (.bl false) μ) (hn : n ≤ 64 := by decide) : wOp X (compareOp .NotEq) d1 d1 μ Φ := o_neY hu h1 h1 (by rw [eqv_same h1]; exact k) hn hn
theorem o_isB {a b : Bool} (k : Φ (.bl (decide (a = b))) μ) : wOp X (compareOp .Is) (.bl a) (.bl b) μ Φ := wop_of op_is_bl fun F H x y hs r1 r2 Q kt => by
  cases r1
  cases r2
  exact ⟨a, b, rfl, rfl, kt.now k hs (.bl _)⟩
theorem o_notB {a b : Bool} (k : Φ (.bl (!decide (a = b))) μ) : wOp X (compareOp .IsNot) (.bl a) (.bl b) μ Φ := wop_of op_isnot_bl fun F H x y hs r1 r2 Q kt => by
  cases r1
  cases r2
  exact ⟨a, b, rfl, rfl, kt.now k hs (.bl _)⟩
end
section
variable {X : Cy} {k o : Expr} {ρ : Rho} {μ : Mu} {ΦT : Bool → Mu → Prop} {pos : Pos}
theorem wt_din (hu : X.c.A.units + 1 < cLine) (h : wE X k ρ μ fun d2 μ1 => wE X o ρ μ1 fun d1 μ2 => ∃ (q : Addr) (m : Nat) (ds : List (Key × D)) (kk : Key), d1 = .ptr q ∧ d2 = kD kk ∧ μ2[m]? = some (q, MO.dk ds) ∧ ΦT (valD ds kk).isSome μ2) (hm : behindInMarks .In o = false := by rfl) : wT X (.Compare k [.In] [o] pos) ρ μ ΦT := fun F σ H hh sl Q kt =>
  st_of (pt_cmp (pc_din hu pe_s pe_s) hm) (binW h hh sl fun y x F2 H2 d2 d1 μ2 ⟨q, m, ds, kk, h1, h2, hm, z⟩ e hs2 r2 r1 => by
    subst h1
    subst h2
    cases r1
    cases rep_kD r2
    obtain ⟨kvs, g, rk⟩ := hs2.dk hm
    refine ⟨q, _, rfl, DGet.k g, ?_⟩
    rw [← (rk.val kk).2]
    exact ⟨_, rfl, kt _ _ _ _ z e hs2⟩)
theorem wt_dnin (hu : X.c.A.units + 1 < cLine) (h : wE X k ρ μ fun d2 μ1 => wE X o ρ μ1 fun d1 μ2 => ∃ (q : Addr) (m : Nat) (ds : List (Key × D)) (kk : Key), d1 = .ptr q ∧ d2 = kD kk ∧ μ2[m]? = some (q, MO.dk ds) ∧ ΦT (!(valD ds kk).isSome) μ2) (hm : behindInMarks .NotIn o = false := by rfl) : wT X (.Compare k [.NotIn] [o] pos) ρ μ ΦT := fun F σ H hh sl Q kt =>
  st_of (pt_cmp (pc_dnotin hu pe_s pe_s) hm) (binW h hh sl fun y x F2 H2 d2 d1 μ2 ⟨q, m, ds, kk, h1, h2, hm, z⟩ e hs2 r2 r1 => by
    subst h1
    subst h2
    cases r1
    cases rep_kD r2
    obtain ⟨kvs, g, rk⟩ := hs2.dk hm
    refine ⟨q, _, rfl, DGet.k g, ?_⟩
    rw [← (rk.val kk).2]
    exact ⟨_, rfl, kt _ _ _ _ z e hs2⟩)
end
theorem fls_map {α : Type} {f : α → D} {g : α → V} (h : ∀ a, (f a).fl = some (g a)) : ∀ l : List α, D.fls (l.map f) = some (l.map g)
  | [] => rfl
  | a :: l => by
    rw [List.map_cons, List.map_cons, D.fls, h a, fls_map h l]
theorem inV_nat (g : Nat) : ∀ l : List Nat, inV (.int (g : Int)) (l.map fun a : Nat => V.int a) = l.any fun a => a == g
  | [] => rfl
  | a :: l => by
    have ih := inV_nat g l
    unfold inV at ih ⊢
    rw [List.map_cons, List.any_cons, List.any_cons, ih]
    refine congrArg (· || _) ?_
    show ((a : Int) == (g : Int)) = (a == g)
    rw [Bool.eq_iff_iff, beq_iff_eq, beq_iff_eq]
    omega
section
variable {X : Cy} {μ : Mu} {Φ : D → Mu → Prop} {d : D}
theorem o_inP {w : V} {q : Addr} {ds : List D} {ws : List V} (m : Nat) (hm : μ[m]? = some (q, MO.lst ds)) (h1 : d.fl = some w) (h2 : D.fls ds = some ws) (k : Φ (.bl (inV w ws)) μ) : wOp X (compareOp .In) d (.ptr q) μ Φ := wop_of op_in_seq fun F H u v hs r1 r2 Q kt => by
  cases rep_fl r1 h1
  cases r2
  obtain ⟨xs, g, rx⟩ := hs.lst hm
  cases rep_fls rx h2
  exact ⟨_, _, rfl, .inl (Evl.sq_of g), fl_flat h1, fls_flat h2, kt.now k hs (.bl _)⟩
theorem o_ninP {w : V} {q : Addr} {ds : List D} {ws : List V} (m : Nat) (hm : μ[m]? = some (q, MO.lst ds)) (h1 : d.fl = some w) (h2 : D.fls ds = some ws) (k : Φ (.bl (!inV w ws)) μ) : wOp X (compareOp .NotIn) d (.ptr q) μ Φ := wop_of op_notIn_seq fun F H u v hs r1 r2 Q kt => by
  cases rep_fl r1 h1
  cases r2
  obtain ⟨xs, g, rx⟩ := hs.lst hm
  cases rep_fls rx h2
  exact ⟨_, _, rfl, .inl (Evl.sq_of g), fl_flat h1, fls_flat h2, kt.now k hs (.bl _)⟩
end
end Oc

/-! Own layer: enumerate of a tuple, of a list; reversed. -/
namespace Oc
open PySem PySem.Spec L2
open Evl (Ex)
open PySem.AutoSeq1 (wpAny_loadPart')
theorem enum_newT (l : Addr) (items : Array Value) (n : Nat) (dct : Option Addr) (sl : Array (Option Value)) :
    Meets (Builtin.«enumerate.__new__» ⟨[.type "enumerate", .ref l], []⟩) (fun _ R s => s.heap.get? l = some { cls := .type "tuple", dict := dct, data := .seq items n, slots := sl } ∧
      R (.ok (.ret (.ref (s.heap.push { cls := .type "tuple_iterator", data := .fields #[.ref l, .int 0 0] }).objs.size)))
        { s with heap := (s.heap.push { cls := .type "tuple_iterator", data := .fields #[.ref l, .int 0 0] }).push { cls := .type "enumerate", data := .fields #[.none, .bool false, .ref s.heap.objs.size, rawInt 0, .none, .none] } }) :=
  .of_wp fun prog w A R s h => by
    obtain ⟨hp, g, d, tk, os⟩ := s
    obtain ⟨hl, h⟩ := h
    have hsub := sub_enumerate
    have hT : Heap.IsTuple (Shared.heap ⟨hp, g, d, tk, os⟩) l items := ⟨_, hl, rfl, n, rfl⟩
    wp_walk using wpAny_loadPart' hl
    refine wpAny_stack_any fun st => wpAny_pure ?_
    split
    · rename_i c _ _ _ _ _
      cases (c == Value.type "enumerate")
      · wp_walk using wpAny_loadPart' hl, wpAny_pyIter_tuple hT
        exact ⟨_, rfl, h⟩
      · wp_walk using wpAny_loadPart' hl, wpAny_pyIter_tuple hT
        exact ⟨_, rfl, h⟩
    · wp_walk using wpAny_loadPart' hl, wpAny_pyIter_tuple hT
      exact ⟨_, rfl, h⟩
section
variable {prog : Program} {w : World} {A : Around} {E : Value → Shared → Prop} {s : Shared}
theorem call_enumT {l : Addr} {items : Array Value} {Q : Value → Shared → Prop} (hT : s.heap.IsTuple l items)
    (h : ∀ h', IsEnum h' (s.heap.objs.size + 1) s.heap.objs.size 0 .none → h'.IsTupleIter s.heap.objs.size l 0 → (∀ b o, s.heap.get? b = some o → h'.get? b = some o) → Q (.ref (s.heap.objs.size + 1)) { s with heap := h' }) :
    wpAny (model prog w) A (call (.type "enumerate") [.ref l]) Q E s := by
  obtain ⟨⟨c, dct, dt, sl⟩, hl, hc, n, hd⟩ := hT
  obtain rfl : c = .type "tuple" := hc
  obtain rfl : dt = .seq items n := hd
  refine callType_new PySem.F.called_enumerate (by decide) (PySem.F.typeCall_enumerate_1 _) (PySem.F.newCall_enumerate_1 _) (fun obj => PySem.F.args_object_init_2 obj _) PySem.F.entry_enumerate_new (enum_newT l items n dct sl) ⟨hl, ?_⟩
  have hz : (s.heap.push { cls := .type "tuple_iterator", data := .fields #[.ref l, .int 0 0] }).objs.size = s.heap.objs.size + 1 := Heap.size_push ..
  have g1 := Heap.get?_push_size (s.heap.push { cls := .type "tuple_iterator", data := .fields #[.ref l, .int 0 0] }) (o := { cls := .type "enumerate", data := .fields #[.none, .bool false, .ref s.heap.objs.size, rawInt 0, .none, .none] }) rfl
  rw [hz] at g1
  show _ ∧ _
  rw [hz]
  exact ⟨⟨_, g1, rfl⟩, h _ g1 ⟨_, Heap.get?_push_of_some _ (Heap.get?_push_size _ rfl), rfl, rfl⟩ fun b o x => Heap.get?_push_of_some _ (Heap.get?_push_of_some _ x)⟩
end
/-- the pairs of a place and an item of the tuple at a -/
def Itet (K : PySem.W.Frag) (a : Addr) : It :=
  ⟨fun i H => ∃ (xs : List V) (x : V), SqT K H a xs ∧ xs[i]? = some x, fun i H v H' => ∃ T x, v = .ref T ∧ H T = none ∧ H' = upd H T (.tup [.int (i : Nat), x]) ∧ ∀ xs, SqT K H a xs → xs[i]? = some x, fun i H => ∃ xs : List V, SqT K H a xs ∧ i = xs.length⟩
theorem turn_enumT {P : Program} {w : World} {K : PySem.W.Frag} {elts : List Expr} {kk : Nat} {tpos : Pos} (a e it : Addr) (hne : e ≠ it) (hea : e ≠ a) (hia : a ≠ it) :
    Turn P w K (.Tuple elts kk tpos) (Itet K a) [e, it] e (fun i h => (∃ old, IsEnum h e it (0 + (i : Int)) old) ∧ h.IsTupleIter it a i) where
  mem := by simp
  obj := fun i h st b hb => by
    obtain ⟨⟨old, he⟩, ⟨o, ho, hc, hd⟩⟩ := st
    rcases List.mem_cons.mp hb with z | z
    · subst z; exact ⟨_, he, fun v q => nomatch q⟩
    · rcases List.mem_cons.mp z with z | z
      · subst z; exact ⟨o, ho, fun v q => by rw [hd] at q; cases q⟩
      · cases z
  keep := fun i h h' st k => by
    obtain ⟨⟨old, he⟩, ⟨o, ho, r⟩⟩ := st
    exact ⟨⟨old, k e (by simp) _ he⟩, ⟨o, k it (by simp) o ho, r⟩⟩
  item := by
    intro Y hP hw hK hc i pins s σ H E I hf st hg
    subst hP hw hK
    obtain ⟨xs, x, hq, hx⟩ := hg
    obtain ⟨its, rv, p, hz⟩ := I.tuple hq
    obtain ⟨u, hu, ru⟩ := rv.get hx
    have G := GoesN.enumFrom (prog := Y.prog) (w := Y.w) (A := Y.A) (elts := elts) (x1 := kk) (pos := tpos) 0 (Draws.tuple (A := Y.A.in1) (I.ok.hd hc) it a hia its.toArray) e hne (by simp [hne, hea]) (by simp)
    refine G.goes i s _ E (by rw [List.size_toArray]; exact (List.getElem?_eq_some_iff.mp hu).1) ⟨st.1, st.2, p⟩ fun v h' tk hY st' hk htk => ?_
    obtain ⟨T, t', u', rfl, hT, hu', hv⟩ := hY
    obtain rfl : u = u' := by
      rw [List.getElem?_toArray, hu] at hu'
      exact Option.some.inj hu'
    have new : ObjOk Y.prog Y.w (upd H T (.tup [.int (i : Nat), x])) h' T (.tup [.int (i : Nat), x]) :=
      ⟨by show 2 ≤ sizeLine; decide, [.int (0 + (i : Int)) t', u], .cons ⟨t', by rw [Int.zero_add]⟩ (.cons ru .nil), hv⟩
    have I1 := I.turnedNew (t' := tk) (ch := [e, it]) hk hf hT new
    refine ⟨.ref T, _, I1, rfl, ⟨T, x, rfl, I.hok.fresh hT, rfl, fun ys hy => by rw [I.tuple_inj hy hq]; exact hx⟩, ⟨st'.1, st'.2.1⟩, fun b hb => ?_⟩
    have hlt : b < s.heap.objs.size := by
      obtain ⟨⟨old, he⟩, ⟨o, ho, _⟩⟩ := st
      rcases List.mem_cons.mp hb with z | z
      · subst z; exact Heap.lt_size he
      · rcases List.mem_cons.mp z with z | z
        · subst z; exact Heap.lt_size ho
        · cases z
    rw [upd_ne (Nat.ne_of_lt (Nat.lt_of_lt_of_le hlt hT))]
    exact (hf b hb).1
  done := by
    intro Y hP hw hK hc i pins s σ H E I hf st hg
    subst hP hw hK
    obtain ⟨xs, hq, rfl⟩ := hg
    obtain ⟨its, rv, p, hz⟩ := I.tuple hq
    have G := GoesN.enumFrom (prog := Y.prog) (w := Y.w) (A := Y.A) (elts := elts) (x1 := kk) (pos := tpos) 0 (Draws.tuple (A := Y.A.in1) (I.ok.hd hc) it a hia its.toArray) e hne (by simp [hne, hea]) (by simp)
    refine G.stops s _ E (by rw [List.size_toArray, ← rv.length]; exact ⟨st.1, st.2, p⟩) fun h' tk hk htk => ?_
    exact I.turnedL hk hf
  self := fun A i s Q E st h => let ⟨⟨_, he⟩, _⟩ := st; wpAny_pyIter_enum he h
section
variable {X : Cy} {e : Expr} {ρ : Rho} {μ : Mu} {pos p : Pos}
def iEnumT (K : PySem.W.Frag) (ta : TA) : TI := fun σ H R => ta σ H fun vs H1 => ∃ a xs, vs = [.ref a] ∧ SqT K H1 a xs ∧ R (Itet K a) H1
theorem pi_enumT {ta : TA} {tpos : Pos} {elts : List Expr} {kk : Nat} (hg : Gl X "enumerate") (hm : X.mg "enumerate" = none) (ha : PA X [e] ta) (hs : starEach [e] X.env = [(false, eval e X.env)] := by rfl) : PI X (.Tuple elts kk tpos) (.Call (.Name "enumerate" p) [e] [] pos) (iEnumT X.K ta) := by
  refine ⟨fun pins s σ H R I h => PyProof.Rows.Call_ (ld_blt I hg hm PyProof.Rows.boot_enumerate (PyProof.Rows.callWith_type1 (thn (ha.run pos pins s σ H _ I h) fun us s1 hq => ?_) hs rfl))⟩
  obtain ⟨vs, H1, I1, r1, a, xs, rfl, hT, q⟩ := hq
  cases r1 with
  | cons r rr =>
    cases rr
    cases r
    obtain ⟨its, rv, p', hz⟩ := I1.tuple hT
    have alt : a < s1.heap.objs.size := PyProof.Rows.IsTup.lt p'
    refine call_enumT p' fun h' he hit hk => wpAny_pyIter_enum he ?_
    have I2 : Inv X pins σ H1 { s1 with heap := h' } := I1.kept (t' := s1.toks) hk
    refine ⟨s1.heap.objs.size + 1, [s1.heap.objs.size + 1, s1.heap.objs.size], _, _, H1, rfl, I2, turn_enumT a (s1.heap.objs.size + 1) s1.heap.objs.size (Nat.succ_ne_self _) (Nat.ne_of_gt (Nat.lt_succ_of_lt alt)) (Nat.ne_of_lt alt), ⟨⟨.none, he⟩, hit⟩, fun b hb => ?_, q⟩
    have hle : s1.heap.objs.size ≤ b := by
      rcases List.mem_cons.mp hb with z | z
      · rw [z]; exact Nat.le_succ _
      · rcases List.mem_cons.mp z with z | z
        · rw [z]; exact Nat.le_refl _
        · cases z
    exact I1.fpOk hle (I1.hok.fresh hle)
/-- the pairs of a place and an item -/
def enumD (ds : List D) : List D := (List.range ds.length).map fun i : Nat => .tup [.int i, ds.getD i .non]
theorem enumD_len {ds : List D} : (enumD ds).length = ds.length := by unfold enumD; rw [List.length_map, List.length_range]
theorem enumD_get {ds : List D} {i : Nat} {d : D} (h : (enumD ds)[i]? = some d) : ∃ x, ds[i]? = some x ∧ d = .tup [.int i, x] := by
  unfold enumD at h
  rw [List.getElem?_map] at h
  by_cases hi : i < ds.length
  · rw [List.getElem?_range hi] at h
    cases h
    exact ⟨ds[i], List.getElem?_eq_getElem hi, by show D.tup [D.int i, ds.getD i D.non] = _; rw [List.getD_eq_getElem?_getD, List.getElem?_eq_getElem hi]; rfl⟩
  · rw [List.getElem?_eq_none (by rw [List.length_range]; omega)] at h
    cases h
theorem wi_enumT {tpos : Pos} {elts : List Expr} {kk : Nat} {ΦI : List D → Mu → Prop} (hm : X.mg "enumerate" = none) (h : wE X e ρ μ fun d μ1 => ∃ ds, d = .tup ds ∧ ΦI (enumD ds) μ1) (hg : Gl X "enumerate" := by rfl) (hs : starEach [e] X.env = [(false, eval e X.env)] := by rfl) :
    wI X (.Tuple elts kk tpos) (.Call (.Name "enumerate" p) [e] [] pos) ρ μ ΦI := fun F σ H hh sl R kt =>
  si_of (pi_enumT hg hm (pa_cons pe_s pa_nil hs) hs) (h F σ H hh sl _ fun v F1 H1 d μ1 ⟨ds, hd, q⟩ e1 hs1 r1 => by
    subst hd
    cases r1 with
    | tup g r =>
      rename_i a xs
      refine ⟨a, xs, rfl, (Evl.st_of (hs1.ex _ _ g)), kt _ _ F1 μ1 H1 q e1 hs1 fun i F' μ' H' e' hs' => ?_⟩
      have g' : SqT X.K H' a xs := Evl.ex_t hs'.ex ((Evl.st_of (e' _ _ g)))
      rw [enumD_len]
      refine ⟨fun hi => ⟨xs, xs[i]'(by rw [r.length]; exact hi), g', List.getElem?_eq_getElem _⟩, fun hi => ⟨xs, g', by rw [r.length]; exact hi⟩, fun x H2 d hy hd => ?_⟩
      obtain ⟨T, y, rfl, hT, rfl, fy⟩ := hy
      obtain ⟨x', hx', rfl⟩ := enumD_get hd
      obtain ⟨z, h1, h2⟩ := r.get hx'
      cases (fy _ g').symm.trans h1
      obtain ⟨g1, g2⟩ := hs'.laid (u := .tup [.int (i : Nat), y]) hT
      exact ⟨_, g2, g1, .tup upd_same (.cons (.int _) (.cons ((h2.mono e').mono g2) .nil))⟩)
theorem wi_enumL {tpos : Pos} {elts : List Expr} {kk : Nat} {ΦI : List D → Mu → Prop} (hm : X.mg "enumerate" = none) (h : wE X e ρ μ fun d μ1 => ∃ ds, d = .lst ds ∧ ΦI (enumD ds) μ1) (hg : Gl X "enumerate" := by rfl) (hs : starEach [e] X.env = [(false, eval e X.env)] := by rfl) :
    wI X (.Tuple elts kk tpos) (.Call (.Name "enumerate" p) [e] [] pos) ρ μ ΦI := fun F σ H hh sl R kt =>
  si_of (pi_enum hg hm (pa_cons pe_s pa_nil hs) hs) (h F σ H hh sl _ fun v F1 H1 d μ1 ⟨ds, hd, q⟩ e1 hs1 r1 => by
    subst hd
    cases r1 with
    | lst g r =>
      rename_i a xs
      refine ⟨a, xs, rfl, Evl.ex_l hs1.ex (Evl.sq_of g), kt _ _ F1 μ1 H1 q e1 hs1 fun i F' μ' H' e' hs' => ?_⟩
      have g' : SqL X.K H' a xs := Evl.ex_l hs'.ex (Evl.ex_l e' (Evl.sq_of g))
      rw [enumD_len]
      refine ⟨fun hi => ⟨xs, xs[i]'(by rw [r.length]; exact hi), g', List.getElem?_eq_getElem _⟩, fun hi => ⟨xs, g', by rw [r.length]; exact Nat.le_of_eq hi.symm⟩, fun x H2 d hy hd => ?_⟩
      obtain ⟨T, y, rfl, hT, rfl, fy⟩ := hy
      obtain ⟨x', hx', rfl⟩ := enumD_get hd
      obtain ⟨z, h1, h2⟩ := r.get hx'
      cases (fy _ g').symm.trans h1
      obtain ⟨g1, g2⟩ := hs'.laid (u := .tup [.int (i : Nat), y]) hT
      exact ⟨_, g2, g1, .tup upd_same (.cons (.int _) (.cons ((h2.mono e').mono g2) .nil))⟩)
theorem wi_revT {tg : Expr} {ΦI : List D → Mu → Prop} (hm : X.mg "reversed" = none) (h : wE X e ρ μ fun d μ1 => ∃ ds, d = .tup ds ∧ ΦI ds.reverse μ1) (hg : Gl X "reversed" := by rfl) (hs : starEach [e] X.env = (false, eval e X.env) :: starEach [] X.env := by rfl) :
    wI X tg (.Call (.Name "reversed" p) [e] [] pos) ρ μ ΦI := fun F σ H hh sl R kt =>
  si_of (RT.pi_revA hg hm pe_s hs) (h F σ H hh sl _ fun v F1 H1 d μ1 ⟨ds, hd, q⟩ e1 hs1 r1 => by
    subst hd
    cases r1 with
    | tup g r =>
      rename_i a xs
      refine ⟨a, xs, rfl, .inr ⟨(Evl.st_of (hs1.ex _ _ g)), kt _ _ F1 μ1 H1 q e1 hs1 fun i F' μ' H' e' hs' => ?_⟩⟩
      have g' : SqT X.K H' a xs := Evl.ex_t hs'.ex ((Evl.st_of (e' _ _ g)))
      have hl := r.length
      rw [List.length_reverse]
      refine ⟨fun hi => ⟨by omega, xs, xs[xs.length - 1 - i]'(by omega), g', List.getElem?_eq_getElem _⟩, fun hi => by show xs.length ≤ i; omega, fun x H2 d hy hd => ?_⟩
      obtain ⟨rfl, fy⟩ := hy
      have hi : i < ds.length := by have := (List.getElem?_eq_some_iff.mp hd).1; rwa [List.length_reverse] at this
      rw [List.getElem?_reverse hi, ← hl] at hd
      obtain ⟨y, h1, h2⟩ := r.get hd
      cases (fy _ g').symm.trans h1
      exact ⟨F', Ex.refl _, hs', h2.mono e'⟩)
end
end Oc

/-! Own layer: list(range), pop at a place, insert, lists times n, loops over a list that may change elsewhere. -/
namespace Oc
open PySem PySem.Spec L2
open Evl (Ex)
section
variable {X : Cy} {a b e o : Expr} {es : List Expr} {ρ : Rho} {μ : Mu} {Φ : D → Mu → Prop} {E : En} {pos p p2 cpos apos : Pos}
theorem rg_reps {K : PySem.W.Frag} {F : Hp} (i j : Int) : Reps K F (rgV i j) (rngD i (j - i).toNat) := reps_map (fun k => .int _) _
/-- list(range(a, b)): a new cell -/
theorem w_listRg2 {p0 : Pos} (hc : X.calm = true) (hl : X.mg "list" = none) (hm : X.mg "range" = none) (h : wE X a ρ μ fun d μ1 => wE X b ρ μ1 fun d' μ2 => ∃ i j : Int, d = .int i ∧ d' = .int j ∧ (-1000000 ≤ i ∧ i ≤ 1000000 ∧ -1000000 ≤ j ∧ j ≤ 1000000) ∧ ∀ q, Φ (.ptr q) ((q, .lst (rngD i (j - i).toNat)) :: μ2))
    (hgl : Gl X "list" := by rfl) (hg : Gl X "range" := by rfl) (na : starEach [a, b] X.env = (false, eval a X.env) :: starEach [b] X.env := by rfl) (nb : starEach [b] X.env = (false, eval b X.env) :: starEach [] X.env := by rfl) (hp : (backTo p0 (starEach [b] X.env)).any (·.1) = false := by rfl)
    (nl : starEach [.Call (.Name "range" p) [a, b] [] p0] X.env = (false, eval (.Call (.Name "range" p) [a, b] [] p0) X.env) :: starEach [] X.env := by rfl) : wE X (.Call (.Name "list" p2) [.Call (.Name "range" p) [a, b] [] p0] [] pos) ρ μ Φ := fun F σ H hh sl Q kt =>
  se_of (pe_listRg hc hgl hl (prg_2 hg hm pe_s pe_s na nb hp) nl) (binW h hh sl fun x y F2 H2 d1 d2 μ2 z e2 hs2 r1 r2 => by
    obtain ⟨i, j, rfl, rfl, hb, q⟩ := z
    cases r1
    cases r2
    exact ⟨i, j, rfl, rfl, ⟨by omega, by omega, by omega, by omega, by omega⟩, fun q' hq => kt _ _ _ _ _ (q q') e2 (hs2.cell hq (.lst (rg_reps i j))) (.ptr q')⟩)
theorem w_listRg1 {p0 : Pos} (hc : X.calm = true) (hl : X.mg "list" = none) (hm : X.mg "range" = none) (h : wE X a ρ μ fun d μ1 => ∃ j : Int, d = .int j ∧ (-1000000 ≤ j ∧ j ≤ 1000000) ∧ ∀ q, Φ (.ptr q) ((q, .lst (rngD 0 j.toNat)) :: μ1))
    (hgl : Gl X "list" := by rfl) (hg : Gl X "range" := by rfl) (na : starEach [a] X.env = (false, eval a X.env) :: starEach [] X.env := by rfl)
    (nl : starEach [.Call (.Name "range" p) [a] [] p0] X.env = (false, eval (.Call (.Name "range" p) [a] [] p0) X.env) :: starEach [] X.env := by rfl) : wE X (.Call (.Name "list" p2) [.Call (.Name "range" p) [a] [] p0] [] pos) ρ μ Φ := fun F σ H hh sl Q kt =>
  se_of (pe_listRg hc hgl hl (prg_1 hg hm pe_s na) nl) (h F σ H hh sl _ fun v F1 H1 d μ1 z e1 hs1 r1 => by
    obtain ⟨j, rfl, hb, q⟩ := z
    cases r1
    refine ⟨j, rfl, ⟨by omega, by omega, by omega, by omega, by omega⟩, fun q' hq => kt _ _ _ _ _ (q q') e1 (hs1.cell hq (.lst ?_)) (.ptr q')⟩
    have := rg_reps (K := X.K) (F := F1) 0 j
    rwa [Int.sub_zero] at this)
theorem Reps.eraseIdx {K : PySem.W.Frag} {F : Hp} : ∀ {v : List V} {d : List D} (n : Nat), Reps K F v d → Reps K F (v.eraseIdx n) (d.eraseIdx n)
  | _, _, _, .nil => .nil
  | _, _, 0, .cons _ r => r
  | _, _, n + 1, .cons q r => .cons q (Reps.eraseIdx n r)
theorem m_popAt {q : Addr} {ds : List D} {d : D} (m : Nat) (hm : μ[m]? = some (q, .lst ds)) (n : Nat) (hd : ds[n]? = some d) (hz : ds.length ≤ 1000000) (k : Φ d (μ.set m (q, .lst (ds.eraseIdx n)))) : wMt X "list" "list.pop" (.ptr q) [.int n] μ Φ := by
  have hl := (List.getElem?_eq_some_iff.mp hd).1
  refine wmt_of mt_popAt fun F H u us hs r1 r2 Q kt => ?_
  cases r1
  cases r2 with
  | cons r rr =>
    cases rr
    cases r
    obtain ⟨xs, g, rx⟩ := hs.lst hm
    obtain ⟨v, h1, h2⟩ := rx.get hd
    refine ⟨_, _, _, n, v, rfl, rfl, g, by omega, by omega, ?_, h1, kt.now k (hs.write hm (.lst (Reps.eraseIdx n rx))) h2⟩
    have hx : n < xs.length := by rw [rx.length]; exact hl
    have h9 : ¬ ((n : Int) < 0) := by omega
    unfold seqIndex?
    simp only [if_neg h9]
    simp
    omega
theorem m_insert {q : Addr} {ds : List D} {d : D} (m : Nat) (hm : μ[m]? = some (q, .lst ds)) (n : Nat) (hn : n ≤ 1000000) (hz : ds.length ≤ 1000000) (k : Φ .non (μ.set m (q, .lst (ds.take n ++ [d] ++ ds.drop n)))) : wMt X "list" "list.insert" (.ptr q) [.int n, d] μ Φ :=
  wmt_of mt_insert fun F H u us hs r1 r2 Q kt => by
  cases r1
  cases r2 with
  | cons r rr =>
    cases rr with
    | cons r2 rr =>
      cases rr
      cases r
      obtain ⟨xs, g, rx⟩ := hs.lst hm
      refine ⟨_, _, n, _, rfl, rfl, g, Nat.lt_of_le_of_lt (by rw [rx.length]; exact hz) (show 1000000 < sizeLine by decide), by omega, by omega, ?_⟩
      rw [Int.toNat_natCast]
      exact kt.now k (hs.write hm (.lst (((rx.take n).append (.one r2)).append (rx.drop n)))) .non
theorem w_popAt (h : wE X o ρ μ fun d μ1 => tyD "list" d μ1 ∧ wA X [e] ρ μ1 fun ds μ2 => wMt X "list" "list.pop" d ds μ2 Φ) (hbase : attributeBase o "pop" X.env (eval o X.env) = eval o X.env := by rfl)
    (hfew : ((backTo cpos (starEach [e] X.env)).all (fun x => !x.1) && (backToKw cpos (keywordEach [] X.env)).all (fun x => x.1.isSome) && decide (([e] : List Expr).length + ([] : List Keyword).length + (if ([] : List Keyword).isEmpty then 0 else 1) < 30)) = true := by rfl)
    (hline : (apos.endLine == cpos.line) = true := by rfl) (hs : starEach [e] X.env = (false, eval e X.env) :: starEach [] X.env := by rfl) : wE X (.Call (.Attribute o "pop" apos) [e] [] cpos) ρ μ Φ :=
  w_bm (by decide) PySem.F.plainAttrs_list PySem.F.slot_list_pop PySem.F.type_list_pop h hbase hfew hline hs rfl
theorem w_insert (h : wE X o ρ μ fun d μ1 => tyD "list" d μ1 ∧ wA X [a, b] ρ μ1 fun ds μ2 => wMt X "list" "list.insert" d ds μ2 Φ) (hbase : attributeBase o "insert" X.env (eval o X.env) = eval o X.env := by rfl)
    (hfew : ((backTo cpos (starEach [a, b] X.env)).all (fun x => !x.1) && (backToKw cpos (keywordEach [] X.env)).all (fun x => x.1.isSome) && decide (([a, b] : List Expr).length + ([] : List Keyword).length + (if ([] : List Keyword).isEmpty then 0 else 1) < 30)) = true := by rfl)
    (hline : (apos.endLine == cpos.line) = true := by rfl) (hs : starEach [a, b] X.env = (false, eval a X.env) :: starEach [b] X.env := by rfl) (hp : (backTo cpos (starEach [b] X.env)).any (·.1) = false := by rfl) : wE X (.Call (.Attribute o "insert" apos) [a, b] [] cpos) ρ μ Φ :=
  w_bm (by decide) PySem.F.plainAttrs_list PySem.F.slot_list_insert PySem.F.type_list_insert h hbase hfew hline hs hp
/-- [..] * n: a new cell -/
theorem o_repL {ds : List D} {k : Int} (hk : 0 ≤ k ∧ k ≤ 1000) (hz : ds.length ≤ 1000) (q : ∀ p, Φ (.ptr p) ((p, .lst (List.replicate k.toNat ds).flatten) :: μ)) : wOp X (binaryOp .Mult) (.lst ds) (.int k) μ Φ := wop_of op_rep fun F H x y hs r1 r2 Q kt => by
  cases r2
  cases r1 with
  | lst g r =>
    have h1 : ds.length * k.toNat ≤ 1000 * 1000 := Nat.mul_le_mul hz (by omega)
    refine ⟨_, k, _, rfl, rfl, hs.ex _ _ g, by omega, by omega, Nat.le_trans (by rw [r.length]; exact h1) (show 1000 * 1000 ≤ sizeLine by decide), fun p hp => ?_⟩
    exact kt _ _ _ _ _ (q p) (Ex.refl _) (hs.cell hp (.lst (Reps.rep r _))) (.ptr p)
/-- a list that may change, and one that stands still -/
theorem o_addPL {q : Addr} {xs ys : List D} (m : Nat) (hm : μ[m]? = some (q, MO.lst xs)) (hc : xs.length + ys.length ≤ 1000000) (k : Φ (.lst (xs ++ ys)) μ) : wOp X (binaryOp .Add) (.ptr q) (.lst ys) μ Φ := wop_of op_cat fun F H _ _ hs r1 r2 Q kt => by
  cases r1
  cases r2 with
  | lst g2 q2 =>
    obtain ⟨vs, g1, q1⟩ := hs.lst hm
    have l1 := q1.length
    have l2 := q2.length
    refine ⟨_, _, _, _, rfl, rfl, g1, hs.ex _ _ g2, Nat.le_trans (by omega) (show 1000000 ≤ sizeLine by decide), fun p hp => ?_⟩
    obtain ⟨s1, s2⟩ := hs.laid (u := .lst _) hp
    exact kt _ _ _ _ _ k s2 s1 (.lst upd_same ((q1.append q2).mono s2))
theorem c_isiP {n : String} {q : Addr} {ds : List D} {k : Bool} (m : Nat) (hm : μ[m]? = some (q, MO.lst ds)) (hk : PySem.W.kitOne X.K (.type "list") (.type n) = some k) (z : Φ (.bl k) μ) : wCl X (.builtin "isinstance") [.ptr q, .ty n] μ Φ := wcl_of call_isi fun F H xs hs r1 Q kt => by
  cases r1 with
  | cons r rr =>
    cases rr with
    | cons r2 rr =>
      cases rr
      cases r2
      cases r
      obtain ⟨vs, g, rx⟩ := hs.lst hm
      exact ⟨_, _, _, _, k, rfl, .ty n, .base (.lst g), hk, kt.now z hs (.bl _)⟩
/-! loops over a cell -/
def WkP (K : KF) (F : Hp) (J : It) (its : List D) (P : Mu → Prop) : Prop := ∀ i F' μ H, Ex F F' → P μ → Hs K F' μ H → (i < its.length → J.go i H) ∧ (i = its.length → J.stop i H) ∧ ∀ x H' d, J.yld i H x H' → its[i]? = some d → ∃ F2, Ex F' F2 ∧ Hs K F2 μ H' ∧ Rep K F2 x d
def wIP (X : Cy) (tg iter : Expr) (ρ : Rho) (μ : Mu) (ΦI : List D → (Mu → Prop) → Mu → Prop) : Prop := ∀ F σ H, Hs X.K F μ H → Sl X.K F ρ σ → ∀ R, (∀ J its P F' μ' H', ΦI its P μ' → Ex F F' → Hs X.K F' μ' H' → WkP X.K F' J its P → R J H') → sI X tg iter σ H R
theorem wi_ptr {tg : Expr} {ΦI : List D → (Mu → Prop) → Mu → Prop} (h : wE X e ρ μ fun d μ1 => ∃ q ds, d = .ptr q ∧ (∃ m : Nat, μ1[m]? = some (q, MO.lst ds)) ∧ ΦI ds (fun μ' => ∃ m : Nat, μ'[m]? = some (q, MO.lst ds)) μ1) : wIP X tg e ρ μ ΦI := fun F σ H hs sl R kt =>
  si_of (pi_list pe_s) (h F σ H hs sl _ fun v F1 H1 d μ1 ⟨q, ds, hd, ⟨m, hm⟩, z⟩ e1 hs1 r1 => by
    subst hd
    cases r1
    obtain ⟨xs, g, r⟩ := hs1.lst hm
    refine ⟨q, rfl, ⟨xs, Evl.sq_of g⟩, kt _ ds _ F1 μ1 H1 z e1 hs1 fun i F' μ' H' e' ⟨m', hm'⟩ hs' => ?_⟩
    obtain ⟨ys, g', r'⟩ := hs'.lst hm'
    refine ⟨fun hi => ⟨ys, ys[i]'(by rw [r'.length]; exact hi), Evl.sq_of g', List.getElem?_eq_getElem _⟩, fun hi => ⟨ys, Evl.sq_of g', by rw [r'.length]; exact Nat.le_of_eq hi.symm⟩, fun x H2 d hy hd => ?_⟩
    obtain ⟨rfl, fy⟩ := hy
    obtain ⟨y, h1, h2⟩ := r'.get hd
    cases (fy _ (Evl.sq_of g')).symm.trans h1
    exact ⟨F', Ex.refl _, hs', h2⟩)
theorem w_forP {tg iter : Expr} {body : List Stmt} (h : wIP X tg iter ρ μ fun its P μ1 => ∃ Iv : Nat → Rho → Mu → Prop, Iv 0 ρ μ1 ∧ (∀ i ρ' μ', Iv i ρ' μ' → P μ') ∧
      (∀ i x ρ' μ', its[i]? = some x → Iv i ρ' μ' → wG X tg x ρ' μ' fun ρ2 μ2 => wSs X body ρ2 μ2 { nx := Iv (i + 1), rt := E.rt, bk := E.nx, ct := Iv (i + 1) }) ∧ (∀ ρ' μ', Iv its.length ρ' μ' → E.nx ρ' μ'))
    (hp : PassesOwn (model X.prog X.w) X.A X.env X.xe) (hc : X.calm = true) (hs : ∀ x, foldedSetIterable iter X.env x = pure x := by intro _; rfl) : wS X (.For tg iter body [] pos) ρ μ E := fun F σ H hh sl D kt =>
  ss_of (ps_for hp hc pi_s pg_s pss_s hs) (h F σ H hh sl _ fun J its P F1 μ1 H1 ⟨Iv, h0, hP, ht, hd⟩ e1 hs1 wk => by
    refine ⟨fun i m σ' H' => m = its.length - i ∧ i ≤ its.length ∧ ∃ F' ρ' μ', Ex F1 F' ∧ Hs X.K F' μ' H' ∧ Sl X.K F' ρ' σ' ∧ Iv i ρ' μ', ⟨its.length, by simp, Nat.zero_le _, F1, ρ, μ1, Ex.refl _, hs1, sl.mono e1, h0⟩, ?_⟩
    rintro i m σ' H' ⟨rfl, hi, F', ρ', μ', e2, hs2, sl2, iv⟩
    obtain ⟨w1, w2, w3⟩ := wk i F' μ' H' e2 (hP i ρ' μ' iv) hs2
    by_cases hlt : i < its.length
    · refine .inr ⟨w1 hlt, fun σ3 H3 => ∃ F3 ρ3 μ3, Ex F1 F3 ∧ Hs X.K F3 μ3 H3 ∧ Sl X.K F3 ρ3 σ3 ∧ Iv (i + 1) ρ3 μ3, fun σ3 H3 q => ⟨its.length - (i + 1), by omega, rfl, hlt, q⟩, fun x H3 hy => ?_⟩
      have hx : its[i]? = some its[i] := List.getElem?_eq_getElem hlt
      obtain ⟨F3, e3, hs3, r3⟩ := w3 x H3 _ hy hx
      refine ht i _ ρ' μ' hx iv F3 σ' H3 x hs3 (sl2.mono e3) r3 _ fun F4 H4 σ4 ρ4 μ4 q4 e4 hs4 sl4 => ?_
      have up : ∀ {F5 : Hp}, Ex F4 F5 → Ex F1 F5 := fun z => e2.trans (e3.trans (e4.trans z))
      refine q4 F4 σ4 H4 hs4 sl4 _ ⟨fun F5 H5 σ5 ρ5 μ5 q5 e5 hs5 sl5 => ⟨F5, ρ5, μ5, up e5, hs5, sl5, q5⟩, ?_, ?_, fun F5 H5 σ5 ρ5 μ5 q5 e5 hs5 sl5 => ⟨F5, ρ5, μ5, up e5, hs5, sl5, q5⟩⟩
      · exact kt.rt.mono (e1.trans (up (Ex.refl _)))
      · exact kt.nx.mono (e1.trans (up (Ex.refl _)))
    · have he : i = its.length := by omega
      subst he
      exact .inl ⟨w2 rfl, kt.nx F' H' σ' ρ' μ' (hd ρ' μ' iv) (e1.trans e2) hs2 sl2⟩)
end
end Oc

/-! Own layer: texts times a number, texts sorted. -/
namespace Oc
open PySem PySem.Spec L2
open Evl (Ex)
section
variable {X : Cy} {μ : Mu} {Φ : D → Mu → Prop} {d : D}
theorem strs_of {K : PySem.W.Frag} {F : Hp} : ∀ {v : List V} {xs : List Str}, Reps K F v (xs.map D.str) → v = xs.map V.str
  | _, [], .nil => rfl
  | _, _ :: _, .cons r rr => by cases r; rw [strs_of rr]; rfl
/-- sorted(xs) of texts: a new cell -/
theorem c_sortedS {xs : List Str} (hd : d = .lst (xs.map D.str)) (hz : xs.length < 64) (k : ∀ (ys : List Str) (p : Addr), ys.Perm xs → PyProof.Rows.sortedS ys = true → Φ (.ptr p) ((p, .lst (ys.map D.str)) :: μ)) : wCl X (.builtin "sorted") [d] μ Φ :=
  wcl_of cr_sortedS fun F H vs hs r1 Q kt => by
  subst hd
  cases r1 with
  | cons r rr =>
    cases rr
    cases r with
    | lst g r =>
      have e := strs_of r
      subst e
      exact ⟨_, xs, rfl, Evl.sq_of (hs.ex _ _ g), hz, fun ys p h1 h2 hp => kt _ _ _ _ _ (k ys p h1 h2) (Ex.refl _) (hs.cell hp (.lst (reps_map (fun y => .str y) ys))) (.ptr p)⟩
end
/-! sorted texts are one -/
open PyProof.Rows (sortedS risingS ltCps_eq) in
theorem rising_pw : ∀ (p : Str) (l : List Str), risingS p l = true → (p :: l).Pairwise fun a b => a.cps.toList ≤ b.cps.toList
  | p, [], _ => List.pairwise_singleton _ _
  | p, x :: r, h => by
    have h1 : (!ltCps x.cps.toList p.cps.toList && risingS x r) = true := h
    rw [Bool.and_eq_true, Bool.not_eq_true', ltCps_eq, decide_eq_false_iff_not] at h1
    have ih := rising_pw x r h1.2
    have hpx : p.cps.toList ≤ x.cps.toList := h1.1
    refine List.pairwise_cons.mpr ⟨fun y hy => ?_, ih⟩
    rcases List.mem_cons.mp hy with rfl | hy
    · exact hpx
    · exact List.le_trans hpx (List.rel_of_pairwise_cons ih hy)
open PyProof.Rows (sortedS) in
theorem sorted_pw {l : List Str} (h : sortedS l = true) : l.Pairwise fun a b => a.cps.toList ≤ b.cps.toList := by
  cases l with
  | nil => exact .nil
  | cons x r => exact rising_pw x r h
theorem pw_uniq : ∀ (l l' : List Str), l.Perm l' → l.Pairwise (fun a b => a.cps.toList ≤ b.cps.toList) → l'.Pairwise (fun a b => a.cps.toList ≤ b.cps.toList) → l = l'
  | [], l', h, _, _ => (List.Perm.nil_eq h)
  | x :: r, [], h, _, _ => absurd h.length_eq (by simp)
  | x :: r, y :: t, h, h1, h2 => by
    have hxy : x.cps.toList ≤ y.cps.toList := by
      have := h.mem_iff.mpr (List.mem_cons_self (a := y) (l := t))
      rcases List.mem_cons.mp this with rfl | hy
      · exact List.le_refl _
      · exact List.rel_of_pairwise_cons h1 hy
    have hyx : y.cps.toList ≤ x.cps.toList := by
      have := h.mem_iff.mp (List.mem_cons_self (a := x) (l := r))
      rcases List.mem_cons.mp this with rfl | hy
      · exact List.le_refl _
      · exact List.rel_of_pairwise_cons h2 hy
    have e : x = y := PyProof.Rows.str_eq_of_lists (List.le_antisymm hxy hyx)
    subst e
    rw [pw_uniq r t (List.Perm.cons_inv h) (List.pairwise_cons.mp h1).2 (List.pairwise_cons.mp h2).2]
theorem sorted_uniq {l l' xs : List Str} (h : l.Perm xs) (h' : l'.Perm xs) (s : PyProof.Rows.sortedS l = true) (s' : PyProof.Rows.sortedS l' = true) : l = l' := pw_uniq l l' (h.trans h'.symm) (sorted_pw s) (sorted_pw s')
theorem nodup_perm : ∀ {α : Type} [DecidableEq α] {l l' : List α}, l.Nodup → l'.Nodup → (∀ x, x ∈ l ↔ x ∈ l') → l.Perm l'
  | _, _, l, l', h, h', e => by
    rw [List.perm_iff_count]
    intro a
    by_cases ha : a ∈ l
    · rw [h.count, h'.count, if_pos ha, if_pos ((e a).mp ha)]
    · rw [List.count_eq_zero.mpr ha, List.count_eq_zero.mpr fun z => ha ((e a).mpr z)]
/-- a sign times a small number -/
theorem op_mulC {X : Cy} : OpR X (binaryOp .Mult) (fun x y H Q => ∃ (c v : Nat), x = .str ⟨#[c]⟩ ∧ y = .int (v : Int) ∧ (1 ≤ v ∧ v ≤ 5) ∧ Q (.str ⟨(List.replicate v c).toArray⟩) H) := by
  intro pins s σ H x y u w Q I rx ry h
  obtain ⟨c, v, rfl, rfl, hv, q⟩ := h
  obtain ⟨t, rfl⟩ := rx
  obtain ⟨t', rfl⟩ := ry
  have hl1 : (⟨#[c]⟩ : Str).length = 1 := rfl
  refine PySem.P.mul_str (by rw [decide_eq_false (by omega), decide_eq_false (by omega)]; rfl) (fun _ _ => by rw [hl1]; exact (match v, hv with
    | 1, _ => by decide
    | 2, _ => by decide
    | 3, _ => by decide
    | 4, _ => by decide
    | 5, _ => by decide)) (fun _ _ => by rw [hl1]; exact (match v, hv with
    | 1, _ => by decide
    | 2, _ => by decide
    | 3, _ => by decide
    | 4, _ => by decide
    | 5, _ => by decide)) ?_
  rw [if_neg (by omega)]
  match v, hv with
  | 1, _ => rw [if_pos (by rfl)]; exact ⟨.str _, H, I, ⟨_, rfl⟩, q⟩
  | 2, _ => rw [if_neg (by rw [hl1]; decide)]; exact ⟨by show 2 ≤ sizeLine; decide, .str _, H, I.tok _, ⟨_, rfl⟩, q⟩
  | 3, _ => rw [if_neg (by rw [hl1]; decide)]; exact ⟨by show 3 ≤ sizeLine; decide, .str _, H, I.tok _, ⟨_, rfl⟩, q⟩
  | 4, _ => rw [if_neg (by rw [hl1]; decide)]; exact ⟨by show 4 ≤ sizeLine; decide, .str _, H, I.tok _, ⟨_, rfl⟩, q⟩
  | 5, _ => rw [if_neg (by rw [hl1]; decide)]; exact ⟨by show 5 ≤ sizeLine; decide, .str _, H, I.tok _, ⟨_, rfl⟩, q⟩
theorem o_mulC {X : Cy} {μ : Mu} {Φ : D → Mu → Prop} {c v : Nat} (hv : 1 ≤ v ∧ v ≤ 5) (k : Φ (.str ⟨(List.replicate v c).toArray⟩) μ) : wOp X (binaryOp .Mult) (.str ⟨#[c]⟩) (.int v) μ Φ := wop_of op_mulC fun F H x y hs r1 r2 Q kt => by
  cases r1
  cases r2
  exact ⟨c, v, rfl, rfl, hv, kt.now k hs (.str _)⟩
end Oc

/-! Own layer: dicts whose keys are tuples. -/
namespace Oc
open PySem PySem.Spec L2
open Evl (Ex)
/-- a tuple as a key -/
abbrev tkD (k : List Key) : D := .tup (k.map kD)
theorem rep_tk {K : PySem.W.Frag} {F : Hp} {v : V} {k : List Key} (r : Rep K F v (tkD k)) : ∃ b, v = .ref b ∧ F b = some (.tup (k.map kV)) := by
  cases r with
  | tup g q =>
    rw [rep_kDs q] at g
    exact ⟨_, rfl, g⟩
section
variable {X : Cy} {o k e f : Expr} {ρ : Rho} {μ : Mu} {Φ : D → Mu → Prop} {ΦT : Bool → Mu → Prop} {E : En} {pos apos cpos : Pos}
/-- the key on D -/
def TK (d : D) (k : List Key) : Prop := d = tkD k
theorem w_tget (hu : X.c.A.units + 1 < cLine) (h : wE X o ρ μ fun d1 μ1 => wE X k ρ μ1 fun d2 μ2 => ∃ (q : Addr) (m : Nat) (ds : List (List Key × D)) (kk : List Key) (d : D), d1 = .ptr q ∧ d2 = tkD kk ∧ μ2[m]? = some (q, MO.dt ds) ∧ valD ds kk = some d ∧ Φ d μ2) (hs : NoSl k := by exact fun _ _ => rfl) : wE X (.Subscript o k pos) ρ μ Φ := fun F σ H hh sl Q kt =>
  se_of (pe_dget hu pe_s pe_s hs) (binW h hh sl fun x y F2 H2 d1 d2 μ2 ⟨q, m, ds, kk, d, h1, h2, hm, hv, z⟩ e hs2 r1 r2 => by
    subst h1
    subst h2
    cases r1
    obtain ⟨b, rfl, hb⟩ := rep_tk r2
    obtain ⟨kvs, g, rk⟩ := hs2.dt hm
    obtain ⟨v, hv, rv⟩ := (rk.val kk).1 d hv
    exact ⟨q, v, rfl, by rw [← hv]; exact DGet.t g (hs2.ex _ _ hb), kt _ _ _ _ _ z e hs2 rv⟩)
theorem w_tput (hu : X.c.A.units + 1 < cLine) {q0 : Pos} (h : wE X e ρ μ fun d μ0 => wE X o ρ μ0 fun d1 μ1 => wE X k ρ μ1 fun d2 μ2 => ∃ (q : Addr) (m : Nat) (ds : List (List Key × D)) (kk : List Key), d1 = .ptr q ∧ d2 = tkD kk ∧ μ2[m]? = some (q, MO.dt ds) ∧ ds.length < 1000000 ∧ E.nx ρ (μ2.set m (q, .dt (putD ds kk d))))
    (hs : swapsWith e (some (.Subscript o k q0)) pos.line X.env = pure false := by rfl) : wS X (.Assign [.Subscript o k q0] e pos) ρ μ E := fun F σ H hh sl D kt =>
  ss_of (ps_dput hu pe_s pe_s pe_s hs) (h F σ H hh sl _ fun v F0 H0 d μ0 h0 e0 hs0 r0 => binW (R := fun x y H2 => ∃ a H4, x = .ref a ∧ DPut H2 a y v H4 ∧ D.nx σ H4) h0 hs0 (sl.mono e0) fun x y F2 H2 d1 d2 μ2 ⟨q, m, ds, kk, h1, h2, hm, hz, z⟩ e hs2 r1 r2 => by
    subst h1
    subst h2
    cases r1
    obtain ⟨b, rfl, hb⟩ := rep_tk r2
    obtain ⟨kvs, g, rk⟩ := hs2.dt hm
    have hz' : kvs.length < sizeLine := Nat.lt_trans (by rw [← rk.len]; exact hz) (show 1000000 < sizeLine by decide)
    exact ⟨q, _, rfl, DPut.t g (hs2.ex _ _ hb) hz', kt.nx F2 _ σ ρ _ z (e0.trans e) (hs2.write hm (.dt (rk.put (r0.mono e)))) (sl.mono (e0.trans e))⟩)
theorem w_tin (hu : X.c.A.units + 1 < cLine) (h : wE X k ρ μ fun d2 μ1 => wE X o ρ μ1 fun d1 μ2 => ∃ (q : Addr) (m : Nat) (ds : List (List Key × D)) (kk : List Key), d1 = .ptr q ∧ d2 = tkD kk ∧ μ2[m]? = some (q, MO.dt ds) ∧ Φ (.bl (valD ds kk).isSome) μ2) (hm : behindInMarks .In o = false := by rfl) : wE X (.Compare k [.In] [o] pos) ρ μ Φ := fun F σ H hh sl Q kt =>
  se_of (pe_cmp (pc_din hu pe_s pe_s) hm) (binW h hh sl fun y x F2 H2 d2 d1 μ2 ⟨q, m, ds, kk, h1, h2, hm, z⟩ e hs2 r2 r1 => by
    subst h1
    subst h2
    cases r1
    obtain ⟨b, rfl, hb⟩ := rep_tk r2
    obtain ⟨kvs, g, rk⟩ := hs2.dt hm
    refine ⟨q, _, rfl, DGet.t g (hs2.ex _ _ hb), ?_⟩
    rw [← (rk.val kk).2]
    exact kt _ _ _ _ _ z e hs2 (.bl _))
theorem w_tnin (hu : X.c.A.units + 1 < cLine) (h : wE X k ρ μ fun d2 μ1 => wE X o ρ μ1 fun d1 μ2 => ∃ (q : Addr) (m : Nat) (ds : List (List Key × D)) (kk : List Key), d1 = .ptr q ∧ d2 = tkD kk ∧ μ2[m]? = some (q, MO.dt ds) ∧ Φ (.bl (!(valD ds kk).isSome)) μ2) (hm : behindInMarks .NotIn o = false := by rfl) : wE X (.Compare k [.NotIn] [o] pos) ρ μ Φ := fun F σ H hh sl Q kt =>
  se_of (pe_cmp (pc_dnotin hu pe_s pe_s) hm) (binW h hh sl fun y x F2 H2 d2 d1 μ2 ⟨q, m, ds, kk, h1, h2, hm, z⟩ e hs2 r2 r1 => by
    subst h1
    subst h2
    cases r1
    obtain ⟨b, rfl, hb⟩ := rep_tk r2
    obtain ⟨kvs, g, rk⟩ := hs2.dt hm
    refine ⟨q, _, rfl, DGet.t g (hs2.ex _ _ hb), ?_⟩
    rw [← (rk.val kk).2]
    exact kt _ _ _ _ _ z e hs2 (.bl _))
theorem wt_tin (hu : X.c.A.units + 1 < cLine) (h : wE X k ρ μ fun d2 μ1 => wE X o ρ μ1 fun d1 μ2 => ∃ (q : Addr) (m : Nat) (ds : List (List Key × D)) (kk : List Key), d1 = .ptr q ∧ d2 = tkD kk ∧ μ2[m]? = some (q, MO.dt ds) ∧ ΦT (valD ds kk).isSome μ2) (hm : behindInMarks .In o = false := by rfl) : wT X (.Compare k [.In] [o] pos) ρ μ ΦT := fun F σ H hh sl Q kt =>
  st_of (pt_cmp (pc_din hu pe_s pe_s) hm) (binW h hh sl fun y x F2 H2 d2 d1 μ2 ⟨q, m, ds, kk, h1, h2, hm, z⟩ e hs2 r2 r1 => by
    subst h1
    subst h2
    cases r1
    obtain ⟨b, rfl, hb⟩ := rep_tk r2
    obtain ⟨kvs, g, rk⟩ := hs2.dt hm
    refine ⟨q, _, rfl, DGet.t g (hs2.ex _ _ hb), ?_⟩
    rw [← (rk.val kk).2]
    exact ⟨_, rfl, kt _ _ _ _ z e hs2⟩)
theorem wt_tnin (hu : X.c.A.units + 1 < cLine) (h : wE X k ρ μ fun d2 μ1 => wE X o ρ μ1 fun d1 μ2 => ∃ (q : Addr) (m : Nat) (ds : List (List Key × D)) (kk : List Key), d1 = .ptr q ∧ d2 = tkD kk ∧ μ2[m]? = some (q, MO.dt ds) ∧ ΦT (!(valD ds kk).isSome) μ2) (hm : behindInMarks .NotIn o = false := by rfl) : wT X (.Compare k [.NotIn] [o] pos) ρ μ ΦT := fun F σ H hh sl Q kt =>
  st_of (pt_cmp (pc_dnotin hu pe_s pe_s) hm) (binW h hh sl fun y x F2 H2 d2 d1 μ2 ⟨q, m, ds, kk, h1, h2, hm, z⟩ e hs2 r2 r1 => by
    subst h1
    subst h2
    cases r1
    obtain ⟨b, rfl, hb⟩ := rep_tk r2
    obtain ⟨kvs, g, rk⟩ := hs2.dt hm
    refine ⟨q, _, rfl, DGet.t g (hs2.ex _ _ hb), ?_⟩
    rw [← (rk.val kk).2]
    exact ⟨_, rfl, kt _ _ _ _ z e hs2⟩)
/-- d.get(k, x) -/
theorem w_tget2 (hu : X.c.A.units + 1 < cLine) (h : wE X o ρ μ fun d1 μ1 => ∃ (q : Addr), d1 = .ptr q ∧ (∃ (m : Nat) (ds : List (List Key × D)), μ1[m]? = some (q, MO.dt ds)) ∧ wE X e ρ μ1 fun d2 μ2 => wE X f ρ μ2 fun d3 μ3 => ∃ (m : Nat) (ds : List (List Key × D)) (kk : List Key), d2 = tkD kk ∧ μ3[m]? = some (q, MO.dt ds) ∧ Φ ((valD ds kk).getD d3) μ3)
    (m : M2 X o "get" apos e f cpos := by exact ⟨rfl, rfl, rfl, rfl⟩) : wE X (.Call (.Attribute o "get" apos) [e, f] [] cpos) ρ μ Φ := fun F σ H hh sl Q kt =>
  se_of (pe_dget2 hu pe_s pe_s pe_s m) (h F σ H hh sl _ fun x F1 H1 d1 μ1 ⟨q, h1, ⟨m1, ds1, hm1⟩, z⟩ e1 hs1 r1 => by
    subst h1
    cases r1
    obtain ⟨kvs1, g1, _⟩ := hs1.dt hm1
    refine ⟨q, rfl, .inr ⟨_, .inl g1⟩, z F1 σ H1 hs1 (sl.mono e1) _ fun y F2 H2 d2 μ2 z2 e2 hs2 r2 => z2 F2 σ H2 hs2 (sl.mono (e1.trans e2)) _ fun u F3 H3 d3 μ3 ⟨m, ds, kk, h2, hm, z3⟩ e3 hs3 r3 => ?_⟩
    subst h2
    obtain ⟨b, rfl, hb⟩ := rep_tk (r2.mono e3)
    obtain ⟨kvs, g, rk⟩ := hs3.dt hm
    refine ⟨_, DGet.t g (hs3.ex _ _ hb), ?_⟩
    cases hv : valD ds kk with
    | none =>
      have e0 : valV kvs kk = none := by
        have := (rk.val kk).2
        rw [hv] at this
        cases h5 : valV kvs kk with
        | none => rfl
        | some v => rw [h5] at this; cases this
      rw [e0]
      rw [hv] at z3
      exact kt _ _ _ _ _ z3 (e1.trans (e2.trans e3)) hs3 r3
    | some d =>
      obtain ⟨v, hv2, rv⟩ := (rk.val kk).1 d hv
      rw [hv2]
      rw [hv] at z3
      exact kt _ _ _ _ _ z3 (e1.trans (e2.trans e3)) hs3 rv)
/-- d.get(k) -/
theorem w_tget1 (hu : X.c.A.units + 1 < cLine) (h : wE X o ρ μ fun d1 μ1 => ∃ (q : Addr), d1 = .ptr q ∧ (∃ (m : Nat) (ds : List (List Key × D)), μ1[m]? = some (q, MO.dt ds)) ∧ wE X e ρ μ1 fun d2 μ3 => ∃ (m : Nat) (ds : List (List Key × D)) (kk : List Key), d2 = tkD kk ∧ μ3[m]? = some (q, MO.dt ds) ∧ Φ ((valD ds kk).getD .non) μ3)
    (m : M1 X o "get" apos e cpos := by exact ⟨rfl, rfl, rfl, rfl⟩) : wE X (.Call (.Attribute o "get" apos) [e] [] cpos) ρ μ Φ := fun F σ H hh sl Q kt =>
  se_of (pe_dget1 hu pe_s pe_s m) (h F σ H hh sl _ fun x F1 H1 d1 μ1 ⟨q, h1, ⟨m1, ds1, hm1⟩, z⟩ e1 hs1 r1 => by
    subst h1
    cases r1
    obtain ⟨kvs1, g1, _⟩ := hs1.dt hm1
    refine ⟨q, rfl, .inr ⟨_, .inl g1⟩, z F1 σ H1 hs1 (sl.mono e1) _ fun y F3 H3 d2 μ3 ⟨m, ds, kk, h2, hm, z3⟩ e3 hs3 r2 => ?_⟩
    subst h2
    obtain ⟨b, rfl, hb⟩ := rep_tk r2
    obtain ⟨kvs, g, rk⟩ := hs3.dt hm
    refine ⟨_, DGet.t g (hs3.ex _ _ hb), ?_⟩
    cases hv : valD ds kk with
    | none =>
      have e0 : valV kvs kk = none := by
        have := (rk.val kk).2
        rw [hv] at this
        cases h5 : valV kvs kk with
        | none => rfl
        | some v => rw [h5] at this; cases this
      rw [e0]
      rw [hv] at z3
      exact kt _ _ _ _ _ z3 (e1.trans e3) hs3 .non
    | some d =>
      obtain ⟨v, hv2, rv⟩ := (rk.val kk).1 d hv
      rw [hv2]
      rw [hv] at z3
      exact kt _ _ _ _ _ z3 (e1.trans e3) hs3 rv)
end
/-! {(..): v}: a display of one pair -/
def tDispT (tk tv : TE) : TE := fun σ H Q => ∀ p, H p = none → tk σ (upd H p (.dT [])) fun x H1 => tv σ H1 fun y H2 => ∃ x' y', [(x, y)] = [(x', y')] ∧ H2 p = some (.dT []) ∧ ∃ b k, x' = .ref b ∧ H2 b = some (.tup (k.map kV)) ∧ Q (.ref p) (upd H2 p (.dT [(k, y')]))
theorem pe_dispT {X : Cy} {pos : Pos} {k v : Expr} {tk tv : TE} (hu : X.c.A.units + 1 < cLine) (hk : PE X k tk) (hv : PE X v tv) : PE X (.Dict [some k] [v] pos) (tDispT tk tv) := by
  refine ⟨fun pins s σ H Q I q => ?_⟩
  have hn := I.hok.fresh (Nat.le_refl s.heap.objs.size)
  have I1 := I.laid (a := s.heap.objs.size) (o := .dT []) (h' := s.heap.push { cls := .type "dict", data := .dict #[] }) (t' := s.toks) (fun _ _ q => Heap.get?_push_of_some _ q) (Nat.le_refl _) (dt_empty s.heap I.big)
  rw [arm_eval_Dict, zip_pairTrees [some k] [v] X.env pos rfl rfl, dictDisplay_pairs (pairTrees [some k] [v] X.env pos) (by simp [pairTrees]) (by simp [pairTrees])]
  have hp := (pps_cons (pos := pos) hk hv pps_nil).run pins _ σ _ (fun ps H2 => ∃ x y, ps = [(x, y)] ∧ H2 s.heap.objs.size = some (.dT []) ∧ ∃ b k, x = .ref b ∧ H2 b = some (.tup (k.map kV)) ∧ Q (.ref s.heap.objs.size) (upd H2 s.heap.objs.size (.dT [(k, y)]))) I1 ?_
  · refine wpAny_bind (wpAny_standAt (wpAny_bind (wpAny_subDictH (knd := tupleKind (mixKind X.prog X.w)) (show X.c.A.units < cLine by omega) (by simp [pairTrees]) (thn hp fun ws s2 ⟨ps, H2, I2, rel, x, y, hps, e, b, kk, hx, hb, q2⟩ => ?_))))
    subst hps hx
    obtain ⟨z, hd, xs0, r0, dd⟩ := dt_of I2.hok e
    cases r0
    cases rel with
    | @cons _ pr _ _ h t =>
      cases t
      obtain ⟨ku, vu⟩ := pr
      obtain ⟨hku, hvu⟩ := h
      cases (show ku = Value.ref b from hku)
      refine ⟨[(kk, b, vu)], ⟨rfl, rfl, key_of I2.hok hb, trivial⟩, dd, fun h' tk dd' hs => wpAny_pure ⟨.ref s.heap.objs.size, _, ?_, rfl, q2⟩⟩
      obtain ⟨q, es, ep, hq, h2, h3, h4, h6, h5⟩ := dd'
      refine d_write I2 (by rw [e]; exact True.intro) hs ⟨q, hq⟩ ⟨by show (1 : Nat) ≤ sizeLine; decide, hd, [(kk, b, vu)], .cons ⟨rfl, ?_, hvu⟩ .nil, q, es, ep, hq, h2, h3, h4, h5⟩
      rw [upd_ne (ne_of hb e (fun z => nomatch z))]
      exact hb
  · exact q _ hn
theorem w_dispT {X : Cy} {k e : Expr} {ρ : Rho} {μ : Mu} {Φ : D → Mu → Prop} {pos : Pos} (hu : X.c.A.units + 1 < cLine) (h : ∀ q, wE X k ρ ((q, .dt []) :: μ) fun d1 μ1 => wE X e ρ μ1 fun d2 μ2 => ∃ (kk : List Key) (μ3 : Mu), d1 = tkD kk ∧ μ2 = (q, MO.dt []) :: μ3 ∧ Φ (.ptr q) ((q, MO.dt [(kk, d2)]) :: μ3)) : wE X (.Dict [some k] [e] pos) ρ μ Φ := fun F σ H hh sl Q kt =>
  se_of (pe_dispT hu pe_s pe_s) fun q hq => h q F σ _ (hh.cell hq (.dt .nil)) sl _ fun x F1 H1 d1 μ1 z1 e1 hs1 r1 => z1 F1 σ H1 hs1 (sl.mono e1) _ fun y F2 H2 d2 μ2 ⟨kk, μ3, h1, h2, z⟩ e2 hs2 r2 => by
    subst h1
    subst h2
    obtain ⟨b, rfl, hb⟩ := rep_tk (r1.mono e2)
    obtain ⟨kvs0, g, rk0⟩ := hs2.dt (i := 0) rfl
    cases rk0
    exact ⟨_, _, rfl, g, b, kk, rfl, hs2.ex _ _ hb, kt _ F2 _ _ _ z (e1.trans e2) (hs2.write (i := 0) rfl (.dt (.cons ⟨rfl, r2⟩ .nil))) (.ptr q)⟩
section
variable {X : Cy} {μ : Mu} {Φ : D → Mu → Prop}
theorem c_anyL {bs : List Bool} (k : Φ (.bl (bs.any id)) μ) (hc : X.calm = true := by rfl) : wCl X (.builtin "any") [.lst (bs.map D.bl)] μ Φ := wcl_of (cr_any hc) fun F H xs hs r1 Q kt => by
  cases r1 with
  | cons r rr =>
    cases rr
    cases r with
    | lst g r =>
      rw [reps_bools r] at g
      exact ⟨_, bs, rfl, Evl.sq_of (hs.ex _ _ g), kt.now k hs (.bl _)⟩
theorem c_allL {bs : List Bool} (k : Φ (.bl (bs.all id)) μ) (hc : X.calm = true := by rfl) : wCl X (.builtin "all") [.lst (bs.map D.bl)] μ Φ := wcl_of (cr_all hc) fun F H xs hs r1 Q kt => by
  cases r1 with
  | cons r rr =>
    cases rr
    cases r with
    | lst g r =>
      rw [reps_bools r] at g
      exact ⟨_, bs, rfl, Evl.sq_of (hs.ex _ _ g), kt.now k hs (.bl _)⟩
end
/-! what a dict holds -/
section
variable {κ : Type} [DecidableEq κ]
theorem valD_any (k : κ) : ∀ ds : List (κ × D), (ds.any fun kv => decide (kv.1 = k)) = (valD ds k).isSome
  | [] => rfl
  | p :: r => by
    by_cases e : p.1 = k
    · obtain ⟨a, b⟩ := p
      cases e
      rw [valD_pos, List.any_cons]
      simp
    · rw [valD_neg e, List.any_cons, valD_any k r]
      simp [e]
theorem putD_new {ds : List (κ × D)} {k : κ} {d : D} (h : valD ds k = none) : putD ds k d = ds ++ [(k, d)] := by
  unfold putD
  rw [valD_any, h]
  rfl
/-- a table written out -/
theorem valD_some {α : Type} {f : α → κ} {g : α → D} {d : D} {k : κ} : ∀ {l : List α}, (∃ a ∈ l, f a = k) → (∀ a ∈ l, f a = k → g a = d) → valD (l.map fun a => (f a, g a)) k = some d
  | [], h, _ => by obtain ⟨a, ha, _⟩ := h; cases ha
  | a :: l, h, hu => by
    rw [List.map_cons]
    by_cases e : f a = k
    · have := hu a List.mem_cons_self e
      subst e
      rw [valD_pos, this]
    · rw [valD_neg e]
      obtain ⟨b, hb, e2⟩ := h
      rcases List.mem_cons.mp hb with rfl | hb
      · exact absurd e2 e
      · exact valD_some ⟨b, hb, e2⟩ fun c hc => hu c (List.mem_cons_of_mem _ hc)
theorem valD_none {α : Type} {f : α → κ} {g : α → D} {k : κ} : ∀ {l : List α}, (∀ a ∈ l, f a ≠ k) → valD (l.map fun a => (f a, g a)) k = none
  | [], _ => rfl
  | a :: l, h => by
    rw [List.map_cons, valD_neg (h a List.mem_cons_self)]
    exact valD_none fun b hb => h b (List.mem_cons_of_mem _ hb)
end
theorem filter_next {α : Type} {l : List α} {i : Nat} {x : α} (h : l[i]? = some x) : l.take (i + 1) = l.take i ++ [x] := by rw [List.take_add_one, h]; rfl
theorem fm_yes {α β : Type} {f : α → Bool} {g : α → β} {l : List α} {t : Nat} {x : α} (h : l[t]? = some x) (hb : f x = true) : ((l.take t).filter f).map g ++ [g x] = ((l.take (t + 1)).filter f).map g := by
  rw [filter_next h, List.filter_append, List.map_append, List.filter_cons, if_pos hb]
  rfl
theorem fm_no {α β : Type} {f : α → Bool} {g : α → β} {l : List α} {t : Nat} {x : α} (h : l[t]? = some x) (hb : f x = false) : ((l.take t).filter f).map g = ((l.take (t + 1)).filter f).map g := by
  rw [filter_next h, List.filter_append, List.map_append, List.filter_cons, if_neg (by rw [hb]; exact Bool.false_ne_true)]
  exact (List.append_nil _).symm
theorem tm_next {α β : Type} {g : α → β} {l : List α} {t : Nat} {x : α} (h : l[t]? = some x) : (l.take t).map g ++ [g x] = (l.take (t + 1)).map g := by
  rw [filter_next h, List.map_append]
  rfl
theorem filt_head {α : Type} (f : α → Bool) (l : List α) : (l.filter f).head? = l.find? f := by
  induction l with
  | nil => rfl
  | cons a l ih =>
    by_cases h : f a = true
    · simp [h]
    · simp [h, ih]
theorem nodup_le : ∀ (n : Nat) (l : List Nat), l.Nodup → (∀ x ∈ l, x < n) → l.length ≤ n
  | 0, l, _, h => by
    cases l with
    | nil => exact Nat.le_refl _
    | cons x l => exact absurd (h x List.mem_cons_self) (Nat.not_lt_zero _)
  | n + 1, l, hd, h => by
    by_cases hn : n ∈ l
    · have h1 := nodup_le n (l.erase n) (hd.erase n) fun x hx => by
        have h2 := (List.Nodup.mem_erase_iff hd).mp hx
        have := h x h2.2
        omega
      rw [List.length_erase_of_mem hn] at h1
      omega
    · have h1 := nodup_le n l hd fun x hx => by
        have := h x hx
        have : x ≠ n := fun e => hn (e ▸ hx)
        omega
      omega
theorem nodup_map {α β : Type} {f : α → β} : ∀ {l : List α}, (∀ x ∈ l, ∀ y ∈ l, f x = f y → x = y) → l.Nodup → (l.map f).Nodup
  | [], _, _ => List.nodup_nil
  | a :: l, h, hn => by
    rw [List.map_cons, List.nodup_cons]
    have hn2 := List.nodup_cons.mp hn
    refine ⟨fun z => ?_, nodup_map (fun x hx y hy => h x (List.mem_cons_of_mem _ hx) y (List.mem_cons_of_mem _ hy)) hn2.2⟩
    obtain ⟨b, hb, e⟩ := List.mem_map.mp z
    have := h b (List.mem_cons_of_mem _ hb) a List.mem_cons_self e
    exact hn2.1 (this ▸ hb)
/-- distinct pairs of numbers below n -/
theorem pairs_le {n : Nat} {l : List (Nat × Nat)} (hd : l.Nodup) (h : ∀ p ∈ l, p.1 < n ∧ p.2 < n) : l.length ≤ n * n := by
  have h1 := nodup_le (n * n) (l.map fun p => p.1 * n + p.2) (nodup_map (fun x hx y hy e => ?_) hd) fun x hx => ?_
  · rwa [List.length_map] at h1
  · obtain ⟨a1, a2⟩ := h x hx
    obtain ⟨b1, b2⟩ := h y hy
    have e : x.1 * n + x.2 = y.1 * n + y.2 := e
    have e1 : x.1 = y.1 := by
      have h1 : (x.1 * n + x.2) / n = x.1 := by rw [Nat.mul_comm, Nat.mul_add_div (by omega), Nat.div_eq_of_lt a2, Nat.add_zero]
      have h2 : (y.1 * n + y.2) / n = y.1 := by rw [Nat.mul_comm, Nat.mul_add_div (by omega), Nat.div_eq_of_lt b2, Nat.add_zero]
      rw [← h1, e, h2]
    rw [e1] at e
    exact Prod.ext e1 (by omega)
  · obtain ⟨p, hp, rfl⟩ := List.mem_map.mp hx
    obtain ⟨a1, a2⟩ := h p hp
    show p.1 * n + p.2 < n * n
    have : (p.1 + 1) * n ≤ n * n := Nat.mul_le_mul_right n a1
    rw [Nat.add_mul] at this
    omega
end Oc

/-! Own layer: cells in another order, dicts that stand still, pairs sorted, setdefault. -/
namespace Oc
open PySem PySem.Spec L2
open Evl (Ex)
section
variable {K : PySem.W.Frag} {F H : Hp} {μ μ' : Mu}
theorem repK_split : ∀ {ds : List (List Key × D)} {kvs : List (List Key × V)}, RepK K F ds kvs → kvs.map (·.1) = ds.map (·.1) ∧ Reps K F (kvs.map (·.2)) (ds.map (·.2))
  | [], [], .nil => ⟨rfl, .nil⟩
  | _ :: _, _ :: _, .cons h t => ⟨by rw [List.map_cons, List.map_cons, (repK_split t).1, h.1], .cons h.2 (repK_split t).2⟩
theorem Hs.perm {K : KF} (h : Hs K F μ H) (p : μ'.Perm μ) : Hs K F μ' H := ⟨h.ex, (p.map (·.1)).nodup_iff.mpr h.nd, fun a o q => h.mu a o (p.mem_iff.mp q), h.gr⟩
end
section
variable {X : Cy} {e o k f : Expr} {sts : List Stmt} {ρ : Rho} {μ : Mu} {Φ : D → Mu → Prop} {ΦT : Bool → Mu → Prop} {E : En} {pos apos cpos : Pos}
/-- cells in another order -/
theorem w_pm (h : wE X e ρ μ fun d μ1 => ∃ μ2, μ2.Perm μ1 ∧ Φ d μ2) : wE X e ρ μ Φ := fun F σ H hs sl Q kt => h F σ H hs sl Q fun v F1 H1 d μ1 ⟨μ2, s, q⟩ x hs1 r => kt v F1 H1 d μ2 q x (hs1.perm s) r
theorem wSs_pm {μ' : Mu} (p : μ'.Perm μ) (h : wSs X sts ρ μ' E) : wSs X sts ρ μ E := fun F σ H hs sl D kt => h F σ H (hs.perm p) sl D kt
/-- a dict is changed no more: cell i, which slot j names -/
theorem wSs_fzD {i j : Nat} {q : Addr} {ds : List (List Key × D)} (hi : μ[i]? = some (q, .dt ds)) (hj : ρ[j]? = some (some (.ptr q))) (h : wSs X sts (ρ.set j (some (.dct (ds.map (·.1)) (ds.map (·.2))))) (μ.eraseIdx i) E) : wSs X sts ρ μ E := fun F σ H hs sl D kt pins s I => by
  obtain ⟨kvs, g, rk⟩ := hs.dt hi
  obtain ⟨hF, _⟩ := hs.at_ hi
  obtain ⟨od, I2⟩ := I.lock g (show Mut (some (.dT kvs)) from True.intro)
  have hsub := hs.sub (List.eraseIdx_sublist μ i)
  have hn : ∀ o, (q, o) ∉ μ.eraseIdx i := fun o z => by
    obtain ⟨j, hj, ne⟩ := List.mem_eraseIdx_iff_getElem?.mp z
    exact hj (nodup_get hs.nd ne hi)
  have hs2 : Hs X.K F (μ.eraseIdx i) (upd H q (.frz od (.dT kvs))) := ⟨fun a o z => by
      rw [upd_ne (ne_of_none z hF)]
      exact hs.ex a o z, hsub.nd, fun a o z => by
      obtain ⟨h1, u, h2, h3⟩ := hsub.mu a o z
      exact ⟨h1, u, by rw [upd_ne (fun e => by subst e; exact hn o z)]; exact h2, h3⟩, hs.gr⟩
  obtain ⟨hs3, e3⟩ := hs2.still hF upd_same hn
  obtain ⟨v, hv, rv⟩ := sl.at_ j _ hj
  cases rv
  obtain ⟨k1, k2⟩ := repK_split rk
  have r1 : Rep X.K (upd F q (.frz od (.dT kvs))) (.ref q) (.dct (ds.map (·.1)) (ds.map (·.2))) := .dct upd_same k1 (k2.mono e3)
  have e2 : σ.set j (some (V.ref q)) = σ := by
    apply List.ext_getElem?
    intro k
    by_cases hk : j = k
    · subst hk
      rw [List.getElem?_set_self (List.getElem?_eq_some_iff.mp hv).1, hv]
    · rw [List.getElem?_set_ne hk]
  have sl1 := (sl.mono e3).set j r1
  rw [e2] at sl1
  exact h _ σ _ hs3 sl1 D (kt.mono e3) pins s I2
/-- what a still dict holds -/
def valZ (ks : List (List Key)) (vs : List D) (k : List Key) : Option D := valD (ks.zip vs) k
theorem zip_rep {K : PySem.W.Frag} {F : Hp} : ∀ {kvs : List (List Key × V)} {ks : List (List Key)} {vs : List D}, kvs.map (·.1) = ks → Reps K F (kvs.map (·.2)) vs → RepK K F (ks.zip vs) kvs
  | [], _, _, rfl, .nil => .nil
  | (k, v) :: kvs, _, _, rfl, .cons r rr => .cons ⟨rfl, r⟩ (zip_rep rfl rr)
theorem valZ_map {α : Type} {f : α → List Key} {g : α → D} (l : List α) (k : List Key) : valZ ((l.map fun a => (f a, g a)).map (·.1)) ((l.map fun a => (f a, g a)).map (·.2)) k = valD (l.map fun a => (f a, g a)) k := by
  unfold valZ
  congr 1
  induction l with
  | nil => rfl
  | cons a l ih => rw [List.map_cons, List.map_cons, List.map_cons, List.zip_cons_cons, ih]
theorem dget_z {K : PySem.W.Frag} {F H : Hp} (ex : Ex F H) {v : V} {b : Addr} {ks : List (List Key)} {vs : List D} {kk : List Key} (r : Rep K F v (.dct ks vs)) (hb : F b = some (.tup (kk.map kV))) :
    ∃ q o, v = .ref q ∧ IsD H q ∧ DGet H q (.ref b) o ∧ o.isSome = (valZ ks vs kk).isSome ∧ (∀ d, valZ ks vs kk = some d → ∃ u, o = some u ∧ Rep K F u d) := by
  cases r with
  | dct g hk rv =>
    have rk := zip_rep hk rv
    refine ⟨_, _, rfl, .inr ⟨_, .inr ⟨_, ex _ _ g⟩⟩, .inr ⟨_, kk, b, .inr ⟨_, ex _ _ g⟩, rfl, ex _ _ hb, rfl⟩, (rk.val kk).2.symm, fun d hd => (rk.val kk).1 d hd⟩
theorem w_zget (hu : X.c.A.units + 1 < cLine) (h : wE X o ρ μ fun d1 μ1 => wE X k ρ μ1 fun d2 μ2 => ∃ (ks : List (List Key)) (vs : List D) (kk : List Key) (d : D), d1 = .dct ks vs ∧ d2 = tkD kk ∧ valZ ks vs kk = some d ∧ Φ d μ2) (hs : NoSl k := by exact fun _ _ => rfl) : wE X (.Subscript o k pos) ρ μ Φ := fun F σ H hh sl Q kt =>
  se_of (pe_dget hu pe_s pe_s hs) (binW h hh sl fun x y F2 H2 d1 d2 μ2 ⟨ks, vs, kk, d, h1, h2, hv, z⟩ e hs2 r1 r2 => by
    subst h1
    subst h2
    obtain ⟨b, rfl, hb⟩ := rep_tk r2
    obtain ⟨q, o, rfl, _, dg, _, hsome⟩ := dget_z hs2.ex r1 hb
    obtain ⟨u, rfl, ru⟩ := hsome d hv
    exact ⟨q, u, rfl, dg, kt _ _ _ _ _ z e hs2 ru⟩)
theorem w_zin (hu : X.c.A.units + 1 < cLine) (h : wE X k ρ μ fun d2 μ1 => wE X o ρ μ1 fun d1 μ2 => ∃ (ks : List (List Key)) (vs : List D) (kk : List Key), d1 = .dct ks vs ∧ d2 = tkD kk ∧ Φ (.bl (valZ ks vs kk).isSome) μ2) (hm : behindInMarks .In o = false := by rfl) : wE X (.Compare k [.In] [o] pos) ρ μ Φ := fun F σ H hh sl Q kt =>
  se_of (pe_cmp (pc_din hu pe_s pe_s) hm) (binW h hh sl fun y x F2 H2 d2 d1 μ2 ⟨ks, vs, kk, h1, h2, z⟩ e hs2 r2 r1 => by
    subst h1
    subst h2
    obtain ⟨b, rfl, hb⟩ := rep_tk r2
    obtain ⟨q, o, rfl, _, dg, hi, _⟩ := dget_z hs2.ex r1 hb
    refine ⟨q, _, rfl, dg, ?_⟩
    rw [hi]
    exact kt _ _ _ _ _ z e hs2 (.bl _))
theorem w_znin (hu : X.c.A.units + 1 < cLine) (h : wE X k ρ μ fun d2 μ1 => wE X o ρ μ1 fun d1 μ2 => ∃ (ks : List (List Key)) (vs : List D) (kk : List Key), d1 = .dct ks vs ∧ d2 = tkD kk ∧ Φ (.bl (!(valZ ks vs kk).isSome)) μ2) (hm : behindInMarks .NotIn o = false := by rfl) : wE X (.Compare k [.NotIn] [o] pos) ρ μ Φ := fun F σ H hh sl Q kt =>
  se_of (pe_cmp (pc_dnotin hu pe_s pe_s) hm) (binW h hh sl fun y x F2 H2 d2 d1 μ2 ⟨ks, vs, kk, h1, h2, z⟩ e hs2 r2 r1 => by
    subst h1
    subst h2
    obtain ⟨b, rfl, hb⟩ := rep_tk r2
    obtain ⟨q, o, rfl, _, dg, hi, _⟩ := dget_z hs2.ex r1 hb
    refine ⟨q, _, rfl, dg, ?_⟩
    rw [hi]
    exact kt _ _ _ _ _ z e hs2 (.bl _))
theorem wt_zin (hu : X.c.A.units + 1 < cLine) (h : wE X k ρ μ fun d2 μ1 => wE X o ρ μ1 fun d1 μ2 => ∃ (ks : List (List Key)) (vs : List D) (kk : List Key), d1 = .dct ks vs ∧ d2 = tkD kk ∧ ΦT (valZ ks vs kk).isSome μ2) (hm : behindInMarks .In o = false := by rfl) : wT X (.Compare k [.In] [o] pos) ρ μ ΦT := fun F σ H hh sl Q kt =>
  st_of (pt_cmp (pc_din hu pe_s pe_s) hm) (binW h hh sl fun y x F2 H2 d2 d1 μ2 ⟨ks, vs, kk, h1, h2, z⟩ e hs2 r2 r1 => by
    subst h1
    subst h2
    obtain ⟨b, rfl, hb⟩ := rep_tk r2
    obtain ⟨q, o, rfl, _, dg, hi, _⟩ := dget_z hs2.ex r1 hb
    refine ⟨q, _, rfl, dg, ?_⟩
    rw [hi]
    exact ⟨_, rfl, kt _ _ _ _ z e hs2⟩)
theorem wt_znin (hu : X.c.A.units + 1 < cLine) (h : wE X k ρ μ fun d2 μ1 => wE X o ρ μ1 fun d1 μ2 => ∃ (ks : List (List Key)) (vs : List D) (kk : List Key), d1 = .dct ks vs ∧ d2 = tkD kk ∧ ΦT (!(valZ ks vs kk).isSome) μ2) (hm : behindInMarks .NotIn o = false := by rfl) : wT X (.Compare k [.NotIn] [o] pos) ρ μ ΦT := fun F σ H hh sl Q kt =>
  st_of (pt_cmp (pc_dnotin hu pe_s pe_s) hm) (binW h hh sl fun y x F2 H2 d2 d1 μ2 ⟨ks, vs, kk, h1, h2, z⟩ e hs2 r2 r1 => by
    subst h1
    subst h2
    obtain ⟨b, rfl, hb⟩ := rep_tk r2
    obtain ⟨q, o, rfl, _, dg, hi, _⟩ := dget_z hs2.ex r1 hb
    refine ⟨q, _, rfl, dg, ?_⟩
    rw [hi]
    exact ⟨_, rfl, kt _ _ _ _ z e hs2⟩)
theorem reps_kV {K : PySem.W.Frag} {F : Hp} : ∀ ks : List Key, Reps K F (ks.map kV) (ks.map kD)
  | [] => .nil
  | .inl i :: ks => .cons (.int i) (reps_kV ks)
  | .inr x :: ks => .cons (.str x) (reps_kV ks)
/-- for k in d, d standing still -/
theorem wi_keysD {tg : Expr} {ΦI : List D → Mu → Prop} (h : wE X e ρ μ fun d μ1 => ∃ ks vs, d = .dct ks vs ∧ ΦI (ks.map tkD) μ1) : wI X tg e ρ μ ΦI := fun F σ H hs sl R kt =>
  si_of (pi_keys pe_s) (h F σ H hs sl _ fun v F1 H1 d μ1 ⟨ks, vs, hd, q⟩ e1 hs1 r1 => by
    subst hd
    cases r1 with
    | dct g hk r =>
      rename_i a o kvs
      refine ⟨a, o, rfl, .inr ⟨kvs, hs1.ex _ _ g, kt _ (ks.map tkD) F1 μ1 H1 q e1 hs1 fun i F' μ' H' e' hs' => ?_⟩⟩
      have g' := hs'.ex _ _ (e' _ _ g)
      have hl : kvs.length = ks.length := by rw [← hk, List.length_map]
      refine ⟨fun hi => ⟨g', by rw [hl]; rwa [List.length_map] at hi⟩, fun hi => ⟨g', by rw [hl]; rw [List.length_map] at hi; exact Nat.le_of_eq hi.symm⟩, fun x H2 d hy hd => ?_⟩
      obtain ⟨rfl, k, v, b, h1, rfl, hb⟩ := hy
      have hk2 : ks[i]? = some k := by rw [← hk, List.getElem?_map, h1]; rfl
      rw [List.getElem?_map, hk2] at hd
      cases hd
      cases hF : F' b with
      | some u =>
        have h3 := hs'.ex _ _ hF
        rw [hb] at h3
        cases h3
        exact ⟨F', Ex.refl _, hs', .tup hF (reps_kV k)⟩
      | none =>
        obtain ⟨g1, g2⟩ := hs'.still hF hb fun o z => by
          obtain ⟨_, u, h4, h5⟩ := hs'.mu _ _ z
          rw [hb] at h4
          cases h4
          cases h5
        exact ⟨_, g2, g1, .tup upd_same (reps_kV k)⟩)
/-- d.setdefault(k, x) -/
def tDSetdT (td ty tx : TE) : TE := fun σ H Q => td σ H fun x H1 => ∃ a, x = .ref a ∧ IsD H1 a ∧ ty σ H1 fun y H2 => tx σ H2 fun z H3 => ∃ (kvs : List (List Key × V)) (k : List Key) (b : Addr), H3 a = some (.dT kvs) ∧ y = .ref b ∧ H3 b = some (.tup (k.map kV)) ∧ kvs.length < sizeLine ∧
  (∀ v, valV kvs k = some v → Q v H3) ∧ (valV kvs k = none → Q z (upd H3 a (.dT (putK kvs k z))))
theorem pe_dsetdT {td ty tx : TE} (hu : X.c.A.units + 1 < cLine) (ho : PE X o td) (he : PE X e ty) (hf : PE X f tx) (m : M2 X o "setdefault" apos e f cpos) : PE X (.Call (.Attribute o "setdefault" apos) [e, f] [] cpos) (tDSetdT td ty tx) := by
  refine ⟨fun pins s σ H Q I h => ?_⟩
  refine wpAny_Call_method m.base m.few m.line PySem.F.plainAttrs_dict PySem.F.slot_dict_setdefault PySem.F.type_dict_setdefault (thn (ho.run pins s σ H _ I h) fun u s1 ⟨x, H1, I1, rx, a, ex, d, q1⟩ => ?_)
  subst ex
  obtain rfl : u = Value.ref a := rx
  obtain ⟨t1, t2, _⟩ := isD_at I1 d
  refine ⟨t1, t2, ?_⟩
  rw [m.trees]
  refine Calls.callWith_builtin rfl (Calls.evalArgs_plain (Calls.spliced_cons (thn (he.run pins s1 σ H1 _ I1 q1) fun iv s2 ⟨y, H2, I2, ry, q2⟩ =>
    Calls.spliced_cons (thn (hf.run pins s2 σ H2 _ I2 q2) fun fv s3 ⟨z, H3, I3, rz, kvs, k, b, ea, ey, eb, hl, q3, q4⟩ => Calls.spliced_nil ?_))))
  subst ey
  obtain rfl : iv = Value.ref b := ry
  obtain ⟨zz, hd, xs, rel, dd⟩ := dt_of I3.hok ea
  have hz : xs.length ≤ sizeLine := by rw [← Paired.length rel]; exact zz
  refine call_setdefault_heap (hsz := hz) (tupleKind_room_in1 hu) (key_of I3.hok eb) hd dd (fun p hp => ?_) fun hp h' dd' hs => ?_
  · have q := rel.val k
    rw [hp] at q
    cases q0 : valV kvs k with
    | none => rw [q0] at q; exact (show False from q).elim
    | some v0 =>
      rw [q0] at q
      exact ⟨v0, _, I3.tok _, q, q3 v0 q0⟩
  · have q := rel.val k
    rw [hp] at q
    cases q0 : valV kvs k with
    | some v0 => rw [q0] at q; exact (show False from q).elim
    | none =>
      have hl2 : (putK kvs k z).length ≤ sizeLine := by have := length_putK kvs k z; omega
      obtain ⟨qo, es, ep, hq, h2, h3, h4, _, h5⟩ := dd'
      refine ⟨z, _, d_write (ob := .dT (putK kvs k z)) I3 (by rw [ea]; exact True.intro) hs ⟨qo, hq⟩ ⟨hl2, hd, _, (rel.put k eb rz).keeps fun c ys ec => ?_, qo, es, ep, hq, h2, h3, h4, h5⟩, rz, q4 q0⟩
      rw [upd_ne (ne_of ec ea (fun z => nomatch z))]
      exact ec
theorem w_tsetd (hu : X.c.A.units + 1 < cLine) (h : wE X o ρ μ fun d1 μ1 => ∃ (q : Addr), d1 = .ptr q ∧ (∃ (m : Nat) (ds : List (List Key × D)), μ1[m]? = some (q, MO.dt ds)) ∧ wE X e ρ μ1 fun d2 μ2 => wE X f ρ μ2 fun d3 μ3 => ∃ (m : Nat) (ds : List (List Key × D)) (kk : List Key), d2 = tkD kk ∧ μ3[m]? = some (q, MO.dt ds) ∧ ds.length < 1000000 ∧
      (∀ d, valD ds kk = some d → Φ d μ3) ∧ (valD ds kk = none → Φ d3 (μ3.set m (q, .dt (putD ds kk d3)))))
    (m : M2 X o "setdefault" apos e f cpos := by exact ⟨rfl, rfl, rfl, rfl⟩) : wE X (.Call (.Attribute o "setdefault" apos) [e, f] [] cpos) ρ μ Φ := fun F σ H hh sl Q kt =>
  se_of (pe_dsetdT hu pe_s pe_s pe_s m) (h F σ H hh sl _ fun x F1 H1 d1 μ1 ⟨q, h1, ⟨m1, ds1, hm1⟩, z⟩ e1 hs1 r1 => by
    subst h1
    cases r1
    obtain ⟨kvs1, g1, _⟩ := hs1.dt hm1
    refine ⟨q, rfl, .inr ⟨_, .inl g1⟩, z F1 σ H1 hs1 (sl.mono e1) _ fun y F2 H2 d2 μ2 z2 e2 hs2 r2 => z2 F2 σ H2 hs2 (sl.mono (e1.trans e2)) _ fun u F3 H3 d3 μ3 ⟨m, ds, kk, h2, hm, hz, z3, z4⟩ e3 hs3 r3 => ?_⟩
    subst h2
    obtain ⟨b, rfl, hb⟩ := rep_tk (r2.mono e3)
    obtain ⟨kvs, g, rk⟩ := hs3.dt hm
    have hz' : kvs.length < sizeLine := Nat.lt_trans (by rw [← rk.len]; exact hz) (show 1000000 < sizeLine by decide)
    refine ⟨kvs, kk, b, g, rfl, hs3.ex _ _ hb, hz', fun v hv => ?_, fun hv => ?_⟩
    · have h6 := (rk.val kk).2
      rw [hv] at h6
      cases h7 : valD ds kk with
      | none => rw [h7] at h6; cases h6
      | some d =>
        obtain ⟨v', hv', rv⟩ := (rk.val kk).1 d h7
        rw [hv] at hv'
        cases hv'
        exact kt _ _ _ _ _ (z3 d h7) (e1.trans (e2.trans e3)) hs3 rv
    · have h6 := (rk.val kk).2
      rw [hv] at h6
      have h7 : valD ds kk = none := by
        cases h7 : valD ds kk with
        | none => rfl
        | some d => rw [h7] at h6; cases h6
      exact kt _ _ _ _ _ (z4 h7) (e1.trans (e2.trans e3)) (hs3.write hm (.dt (rk.put r3))) r3)
end
section
variable {X : Cy} {e o k f : Expr} {sts : List Stmt} {ρ : Rho} {μ : Mu} {Φ Ψ : D → Mu → Prop} {E : En} {pos apos cpos : Pos}
/-- d.get(k, x), d standing still -/
theorem w_zget2 (hu : X.c.A.units + 1 < cLine) (h : wE X o ρ μ fun d1 μ1 => ∃ (ks : List (List Key)) (vs : List D), d1 = .dct ks vs ∧ wE X e ρ μ1 fun d2 μ2 => wE X f ρ μ2 fun d3 μ3 => ∃ (kk : List Key), d2 = tkD kk ∧ Φ ((valZ ks vs kk).getD d3) μ3)
    (m : M2 X o "get" apos e f cpos := by exact ⟨rfl, rfl, rfl, rfl⟩) : wE X (.Call (.Attribute o "get" apos) [e, f] [] cpos) ρ μ Φ := fun F σ H hh sl Q kt =>
  se_of (pe_dget2 hu pe_s pe_s pe_s m) (h F σ H hh sl _ fun x F1 H1 d1 μ1 ⟨ks, vs, h1, z⟩ e1 hs1 r1 => by
    subst h1
    have r0 := r1
    cases r1 with
    | dct g hk rv =>
    rename_i a o kvs
    refine ⟨a, rfl, .inr ⟨_, .inr ⟨_, hs1.ex _ _ g⟩⟩, z F1 σ H1 hs1 (sl.mono e1) _ fun y F2 H2 d2 μ2 z2 e2 hs2 r2 => z2 F2 σ H2 hs2 (sl.mono (e1.trans e2)) _ fun u F3 H3 d3 μ3 ⟨kk, h2, z3⟩ e3 hs3 r3 => ?_⟩
    subst h2
    obtain ⟨b, rfl, hb⟩ := rep_tk (r2.mono e3)
    obtain ⟨q, o, hq, _, dg, hi, hsome⟩ := dget_z hs3.ex (r0.mono (e2.trans e3)) hb
    cases hq
    refine ⟨_, dg, ?_⟩
    cases hv : valZ ks vs kk with
    | none =>
      rw [hv] at hi z3
      cases o with
      | none => exact kt _ _ _ _ _ z3 (e1.trans (e2.trans e3)) hs3 r3
      | some u => cases hi
    | some d =>
      obtain ⟨v, rfl, rv⟩ := hsome d hv
      rw [hv] at z3
      exact kt _ _ _ _ _ z3 (e1.trans (e2.trans e3)) hs3 rv)
theorem w_zget1 (hu : X.c.A.units + 1 < cLine) (h : wE X o ρ μ fun d1 μ1 => ∃ (ks : List (List Key)) (vs : List D), d1 = .dct ks vs ∧ wE X e ρ μ1 fun d2 μ3 => ∃ (kk : List Key), d2 = tkD kk ∧ Φ ((valZ ks vs kk).getD .non) μ3)
    (m : M1 X o "get" apos e cpos := by exact ⟨rfl, rfl, rfl, rfl⟩) : wE X (.Call (.Attribute o "get" apos) [e] [] cpos) ρ μ Φ := fun F σ H hh sl Q kt =>
  se_of (pe_dget1 hu pe_s pe_s m) (h F σ H hh sl _ fun x F1 H1 d1 μ1 ⟨ks, vs, h1, z⟩ e1 hs1 r1 => by
    subst h1
    have r0 := r1
    cases r1 with
    | dct g hk rv =>
    rename_i a o kvs
    refine ⟨a, rfl, .inr ⟨_, .inr ⟨_, hs1.ex _ _ g⟩⟩, z F1 σ H1 hs1 (sl.mono e1) _ fun y F3 H3 d2 μ3 ⟨kk, h2, z3⟩ e3 hs3 r2 => ?_⟩
    subst h2
    obtain ⟨b, rfl, hb⟩ := rep_tk r2
    obtain ⟨q, o, hq, _, dg, hi, hsome⟩ := dget_z hs3.ex (r0.mono e3) hb
    cases hq
    refine ⟨_, dg, ?_⟩
    cases hv : valZ ks vs kk with
    | none =>
      rw [hv] at hi z3
      cases o with
      | none => exact kt _ _ _ _ _ z3 (e1.trans e3) hs3 .non
      | some u => cases hi
    | some d =>
      obtain ⟨v, rfl, rv⟩ := hsome d hv
      rw [hv] at z3
      exact kt _ _ _ _ _ z3 (e1.trans e3) hs3 rv)
/-! lists of lists: all cells frozen at once -/
theorem Hs.freezeL {K : KF} : ∀ (L : List (Addr × List D)) {F H : Hp} {μ : Mu}, Hs K F (L.map (fun e => (e.1, MO.lst e.2)) ++ μ) H → ∃ F', Ex F F' ∧ Hs K F' μ H ∧ ∀ e ∈ L, Rep K F' (.ref e.1) (.lst e.2)
  | [], F, H, μ, h => ⟨F, Ex.refl F, h, fun e he => (nomatch he)⟩
  | a :: L, F, H, μ, h => by
    obtain ⟨F1, e1, h1, r1⟩ := Hs.freeze h (i := 0) (p := a.1) (ds := a.2) rfl
    obtain ⟨F2, e2, h2, r2⟩ := Hs.freezeL L h1
    refine ⟨F2, e1.trans e2, h2, fun e he => ?_⟩
    rcases List.mem_cons.mp he with rfl | he
    · exact r1.mono e2
    · exact r2 e he
theorem reps_ptr {K : PySem.W.Frag} {F F' : Hp} : ∀ {L : List (Addr × List D)} {xs : List V}, Reps K F xs (L.map fun e => .ptr e.1) → (∀ e ∈ L, Rep K F' (.ref e.1) (.lst e.2)) → Reps K F' xs (L.map fun e => .lst e.2)
  | [], _, .nil, _ => .nil
  | e :: L, _, .cons r rr, h => by
    cases r
    exact .cons (h e List.mem_cons_self) (reps_ptr rr fun e he => h e (List.mem_cons_of_mem _ he))
/-- a list of lists stands still from now on -/
theorem w_fzT (h : wE X e ρ μ fun d μ1 => ∃ (t : Addr) (L : List (Addr × List D)) (μ2 : Mu), d = .ptr t ∧ ((t, MO.lst (L.map fun e => .ptr e.1)) :: (L.map (fun e => (e.1, MO.lst e.2)) ++ μ2)).Perm μ1 ∧ Φ (.lst (L.map fun e => .lst e.2)) μ2) : wE X e ρ μ Φ := fun F σ H hs sl Q kt => h F σ H hs sl Q fun v F1 H1 d μ1 ⟨t, L, μ2, hd, hp, q⟩ x hs1 r => by
  subst hd
  cases r
  obtain ⟨F2, e2, hs2, r2⟩ := Hs.freeze (hs1.perm hp) (i := 0) (p := t) rfl
  obtain ⟨F3, e3, hs3, r3⟩ := Hs.freezeL L hs2
  cases r2 with
  | lst g rr => exact kt _ F3 H1 _ μ2 q (x.trans (e2.trans e3)) hs3 (.lst (e3 _ _ g) (reps_ptr rr r3))
/-- the lists in a still dict, too -/
theorem wSs_fzV {j : Nat} {ks : List (List Key)} {L : List (Addr × List D)} {μ2 : Mu} (hj : ρ[j]? = some (some (.dct ks (L.map fun e => .ptr e.1)))) (hp : (L.map (fun e => (e.1, MO.lst e.2)) ++ μ2).Perm μ) (h : wSs X sts (ρ.set j (some (.dct ks (L.map fun e => .lst e.2)))) μ2 E) : wSs X sts ρ μ E := fun F σ H hs sl D kt => by
  obtain ⟨F3, e3, hs3, r3⟩ := Hs.freezeL L (hs.perm hp)
  obtain ⟨v, hv, rv⟩ := sl.at_ j _ hj
  have r1 : Rep X.K F3 v (.dct ks (L.map fun e => .lst e.2)) := by
    cases rv with
    | dct g hk rr => exact .dct (e3 _ _ g) hk (reps_ptr rr r3)
  have e2 : σ.set j (some v) = σ := by
    apply List.ext_getElem?
    intro k
    by_cases hk : j = k
    · subst hk
      rw [List.getElem?_set_self (List.getElem?_eq_some_iff.mp hv).1, hv]
    · rw [List.getElem?_set_ne hk]
  have sl1 := (sl.mono e3).set j r1
  rw [e2] at sl1
  exact h _ σ _ hs3 sl1 D (kt.mono e3)
end
/-! a list that may change, beside one that stands still -/
section
variable {X : Cy} {μ : Mu} {Φ : D → Mu → Prop}
theorem o_neP {q : Addr} {ds es : List D} {n k0 : Nat} (m : Nat) (hm : μ[m]? = some (q, MO.lst ds)) (hu : X.c.A.units + 64 < cLine) (h1 : Lys ds n) (h2 : Lys es k0) (k : Φ (.bl (!PyData.eqv (D.lst ds).py (D.lst es).py)) μ) (hn : n ≤ 60 := by decide) (hk : k0 ≤ 60 := by decide) : wOp X (compareOp .NotEq) (.ptr q) (.lst es) μ Φ := wop_of (op_neD hu) fun F H u v hs r1 r2 Q kt => by
  cases r1
  obtain ⟨xs, g, rx⟩ := hs.lst hm
  have e : (D.lst ds).py = .list (D.pys ds) := by simp only [D.py]
  have hp : Dp X.K H (.ref q) (D.lst ds).py := by rw [e]; exact .lst (Evl.sq_of g) (reps_py hs.ex rx h1.st)
  exact ⟨_, _, hp, rep_py hs.ex r2 (Ly.lst h2).st, (Ly.lst h1).shaped (by omega), (Ly.lst h2).shaped (by omega), kt.now k hs (.bl _)⟩
theorem o_eqP {q : Addr} {ds es : List D} {n k0 : Nat} (m : Nat) (hm : μ[m]? = some (q, MO.lst ds)) (hu : X.c.A.units + 64 < cLine) (h1 : Lys ds n) (h2 : Lys es k0) (k : Φ (.bl (PyData.eqv (D.lst ds).py (D.lst es).py)) μ) (hn : n ≤ 60 := by decide) (hk : k0 ≤ 60 := by decide) : wOp X (compareOp .Eq) (.ptr q) (.lst es) μ Φ := wop_of (op_eqD hu) fun F H u v hs r1 r2 Q kt => by
  cases r1
  obtain ⟨xs, g, rx⟩ := hs.lst hm
  have e : (D.lst ds).py = .list (D.pys ds) := by simp only [D.py]
  have hp : Dp X.K H (.ref q) (D.lst ds).py := by rw [e]; exact .lst (Evl.sq_of g) (reps_py hs.ex rx h1.st)
  exact ⟨_, _, hp, rep_py hs.ex r2 (Ly.lst h2).st, (Ly.lst h1).shaped (by omega), (Ly.lst h2).shaped (by omega), kt.now k hs (.bl _)⟩
end
/-! the last one; signs -/
section
variable {X : Cy} {μ : Mu} {Φ : D → Mu → Prop} {d : D}
theorem atI_last {α : Type} {l : List α} {x : α} : atI (l ++ [x]) (-1) = some x := by
  unfold atI ixN
  rw [if_neg (by decide), List.length_append]
  have h : -((l.length + [x].length : Nat) : Int) ≤ -1 := by show -((l.length + 1 : Nat) : Int) ≤ -1; omega
  rw [if_pos h]
  show (l ++ [x])[(-1 + ((l.length + 1 : Nat) : Int)).toNat]? = some x
  rw [show (-1 + ((l.length + 1 : Nat) : Int)).toNat = l.length by omega, List.getElem?_append_right (Nat.le_refl _), Nat.sub_self]
  rfl
theorem u_neg {i : Int} (k : Φ (.int (-i)) μ) : wUn X (unaryOp .USub) (.int i) μ Φ := fun F H u hs r Q kt pins s σ uu I rv => by
  cases r
  exact un_neg pins s σ H _ uu Q I rv ⟨i, rfl, kt.now k hs (.int _)⟩
theorem ix_ptrN {q : Addr} {ds l : List D} (m : Nat) (hm : μ[m]? = some (q, .lst ds)) (hd : ds = l ++ [d]) (k : Φ d μ) : wIx X (.ptr q) (.int (-1)) μ Φ := wix_of ix_list fun F H x y hs r1 r2 Q kt => by
  subst hd
  cases r2
  cases r1
  obtain ⟨xs, g, r⟩ := hs.lst hm
  have hsp : ∀ {xs : List V} {l : List D} {d : D}, Reps X.K F xs (l ++ [d]) → ∃ ys v, xs = ys ++ [v] ∧ Rep X.K F v d := fun {xs l d} r => by
    induction l generalizing xs with
    | nil =>
      cases r with
      | cons r rr => cases rr; exact ⟨[], _, rfl, r⟩
    | cons a l ih =>
      cases r with
      | cons r rr =>
        obtain ⟨ys, v, h1, h2⟩ := ih rr
        exact ⟨_ :: ys, v, by rw [h1]; rfl, h2⟩
  obtain ⟨ys, v, rfl, rv⟩ := hsp r
  exact ⟨_, _, _, v, rfl, rfl, Evl.sq_of g, atI_last, kt.now k hs rv⟩
end
/-! pairs sorted -/
abbrev natP (p : Nat × Nat) : D := .tup [.int p.1, .int p.2]
def leP (a b : Nat × Nat) : Prop := a.1 < b.1 ∨ (a.1 = b.1 ∧ a.2 ≤ b.2)
def pairV (H : Hp) : V → Int × Int
  | .ref t => match H t with
    | some (.tup [.int i, .int j]) => (i, j)
    | _ => (0, 0)
  | _ => (0, 0)
section
variable {X : Cy} {μ : Mu} {Φ : D → Mu → Prop} {d : D}
theorem c_sortedP {ps : List (Nat × Nat)} (hd : d = .lst (ps.map natP)) (k : ∀ ps' : List (Nat × Nat), ps'.Perm ps → ps'.Pairwise leP → Φ (.lst (ps'.map natP)) μ) : wCl X (.builtin "sorted") [d] μ Φ :=
  wcl_of cr_sortedPO fun F H vs hs r1 Q kt => by
  subst hd
  cases r1 with
  | cons r rr =>
    cases rr
    cases r with
    | lst g r =>
      rename_i a xs
      have at_ : ∀ {xs : List V} {ps : List (Nat × Nat)}, Reps X.K F xs (ps.map natP) → (∀ x ∈ xs, ∃ (t : Addr) (i j : Nat), x = .ref t ∧ F t = some (.tup [.int i, .int j])) ∧ xs.map (fun x => ((pairV H x).1.toNat, (pairV H x).2.toNat)) = ps := fun {xs ps} r => by
        induction ps generalizing xs with
        | nil => cases r; exact ⟨fun x hx => (nomatch hx), rfl⟩
        | cons p ps ih =>
          cases r with
          | cons r rr =>
            obtain ⟨h1, h2⟩ := ih rr
            cases r with
            | tup g q =>
              cases q with
              | cons q1 q =>
                cases q with
                | cons q2 q =>
                  cases q
                  cases q1
                  cases q2
                  refine ⟨fun x hx => ?_, ?_⟩
                  · rcases List.mem_cons.mp hx with rfl | hx
                    · exact ⟨_, _, _, rfl, g⟩
                    · exact h1 x hx
                  · rw [List.map_cons, h2]
                    congr 1
                    simp only [pairV, hs.ex _ _ g]
                    exact Prod.ext (by simp) (by simp)
      obtain ⟨h1, h2⟩ := at_ r
      have hat : ∀ x ∈ xs, ∃ (t : Addr) (i j : Nat), x = .ref t ∧ F t = some (.tup [.int i, .int j]) ∧ pairV H x = ((i : Int), (j : Int)) := fun x hx => by
        obtain ⟨t, i, j, rfl, ht⟩ := h1 x hx
        exact ⟨t, i, j, rfl, ht, by simp only [pairV, hs.ex _ _ ht]⟩
      refine ⟨a, xs, pairV H, rfl, Evl.sq_of (hs.ex _ _ g), fun x hx => ?_, fun ys p hsr hst hp => ?_⟩
      · obtain ⟨t, i, j, rfl, ht, e⟩ := hat x hx
        exact ⟨t, rfl, by rw [e]; exact hs.ex _ _ ht⟩
      · obtain ⟨g1, g2⟩ := hs.laid (u := .lst ys) hp
        have hys : ∀ y ∈ ys, y ∈ xs := fun y hy => hst.perm.mem_iff.mp hy
        have rys : ∀ ys : List V, (∀ y ∈ ys, y ∈ xs) → Reps X.K F ys ((ys.map fun x => ((pairV H x).1.toNat, (pairV H x).2.toNat)).map natP) := fun ys hys => by
          induction ys with
          | nil => exact .nil
          | cons y ys ih =>
            obtain ⟨t, i, j, rfl, ht, e⟩ := hat y (hys y List.mem_cons_self)
            rw [List.map_cons, List.map_cons]
            refine .cons ?_ (ih fun z hz => hys z (List.mem_cons_of_mem _ hz))
            rw [e]
            exact .tup ht (.cons (.int _) (.cons (.int _) .nil))
        refine kt _ _ _ _ _ (k (ys.map fun x => ((pairV H x).1.toNat, (pairV H x).2.toNat)) (by rw [← h2]; exact hst.perm.map _) ?_) g2 g1 (.lst upd_same ((rys ys hys).mono g2))
        rw [List.pairwise_map]
        refine List.Pairwise.imp_of_mem (fun {x y} hx hy h => ?_) hsr
        obtain ⟨t, i, j, rfl, ht, e1⟩ := hat x (hys x hx)
        obtain ⟨t', i', j', rfl, ht', e2⟩ := hat y (hys y hy)
        have h := SrtO.lexB_no.mp h
        rw [e1, e2] at h
        rw [e1, e2]
        show (i : Int).toNat < (i' : Int).toNat ∨ _
        simp only [Int.toNat_natCast]
        omega
end
theorem leP_uniq : ∀ (l l' : List (Nat × Nat)), l.Perm l' → l.Pairwise leP → l'.Pairwise leP → l = l'
  | [], l', h, _, _ => (List.Perm.eq_nil h.symm).symm
  | a :: l, [], h, _, _ => absurd h.length_eq (by simp)
  | a :: l, b :: l', h, h1, h2 => by
    have hab : leP a b := by
      rcases List.mem_cons.mp (h.mem_iff.mpr (List.mem_cons_self (a := b) (l := l'))) with e | e
      · rw [e]; exact .inr ⟨rfl, Nat.le_refl _⟩
      · exact (List.pairwise_cons.mp h1).1 b e
    have hba : leP b a := by
      rcases List.mem_cons.mp (h.mem_iff.mp (List.mem_cons_self (a := a) (l := l))) with e | e
      · rw [e]; exact .inr ⟨rfl, Nat.le_refl _⟩
      · exact (List.pairwise_cons.mp h2).1 a e
    have e : a = b := by unfold leP at hab hba; exact Prod.ext (by omega) (by omega)
    subst e
    rw [leP_uniq l l' h.cons_inv (List.pairwise_cons.mp h1).2 (List.pairwise_cons.mp h2).2]
end Oc

/-! Own layer: cells of which a word is known, loops and joins that name the slots they change alone, maps and filters. -/
namespace Oc
open PySem PySem.Spec L2
open Evl (Ex)
/-- a cell's word changes, its object stays -/
theorem Hs.turn {K : KF} {F H : Hp} {μ : Mu} (h : Hs K F μ H) {i : Nat} {p : Addr} {o o' : MO} (e : μ[i]? = some (p, o)) (r : ∀ u, RepO K F o u → RepO K F o' u) : Hs K F (μ.set i (p, o')) H := by
  obtain ⟨h1, u, h2, h3⟩ := h.at_ e
  have hw := h.write e (r u h3)
  have hH : upd H p u = H := by
    funext b
    unfold upd
    split
    · rename_i hb; rw [hb, h2]
    · rfl
  rwa [hH] at hw
section
variable {X : Cy} {e : Expr} {sts : List Stmt} {ρ : Rho} {μ : Mu} {Φ : D → Mu → Prop} {E : En}
theorem Hs.la {K : KF} {F H : Hp} {μ : Mu} (h : Hs K F μ H) {i : Nat} {p : Addr} {P : List D → Prop} (e : μ[i]? = some (p, .la P)) : ∃ ds, P ds ∧ Hs K F (μ.set i (p, .lst ds)) H := by
  obtain ⟨h1, u, h2, h3⟩ := h.at_ e
  cases h3 with
  | la hp r =>
    rename_i ds xs
    have hw := h.write e (u := .lst xs) (.lst r)
    have hH : upd H p (.lst xs) = H := by
      funext b
      unfold upd
      split
      · rename_i hb; rw [hb, h2]
      · rfl
    rw [hH] at hw
    exact ⟨ds, hp, hw⟩
theorem Hs.ka {K : KF} {F H : Hp} {μ : Mu} (h : Hs K F μ H) {i : Nat} {p : Addr} {P : List (Key × D) → Prop} (e : μ[i]? = some (p, .ka P)) : ∃ ds, P ds ∧ Hs K F (μ.set i (p, .dk ds)) H := by
  obtain ⟨h1, u, h2, h3⟩ := h.at_ e
  cases h3 with
  | ka hp r =>
    rename_i ds xs
    have hw := h.write e (u := .dK xs) (.dk r)
    have hH : upd H p (.dK xs) = H := by
      funext b
      unfold upd
      split
      · rename_i hb; rw [hb, h2]
      · rfl
    rw [hH] at hw
    exact ⟨ds, hp, hw⟩
theorem wSs_open {i : Nat} {q : Addr} {P : List D → Prop} (hi : μ[i]? = some (q, .la P)) (h : ∀ ds, P ds → wSs X sts ρ (μ.set i (q, .lst ds)) E) : wSs X sts ρ μ E := fun F σ H hs sl D kt => by
  obtain ⟨ds, hp, hs'⟩ := hs.la hi
  exact h ds hp F σ H hs' sl D kt
theorem wSs_openK {i : Nat} {q : Addr} {P : List (Key × D) → Prop} (hi : μ[i]? = some (q, .ka P)) (h : ∀ ds, P ds → wSs X sts ρ (μ.set i (q, .dk ds)) E) : wSs X sts ρ μ E := fun F σ H hs sl D kt => by
  obtain ⟨ds, hp, hs'⟩ := hs.ka hi
  exact h ds hp F σ H hs' sl D kt
theorem w_close (h : wE X e ρ μ fun d μ1 => ∃ (i : Nat) (q : Addr) (ds : List D) (P : List D → Prop), μ1[i]? = some (q, .lst ds) ∧ P ds ∧ Φ d (μ1.set i (q, .la P))) : wE X e ρ μ Φ := fun F σ H hs sl Q kt =>
  h F σ H hs sl Q fun v F1 H1 d μ1 ⟨i, q, ds, P, hi, hp, z⟩ e1 hs1 r => kt v F1 H1 d _ z e1 (hs1.turn hi fun u ru => by cases ru with | lst r => exact .la hp r) r
theorem w_closeK (h : wE X e ρ μ fun d μ1 => ∃ (i : Nat) (q : Addr) (ds : List (Key × D)) (P : List (Key × D) → Prop), μ1[i]? = some (q, .dk ds) ∧ P ds ∧ Φ d (μ1.set i (q, .ka P))) : wE X e ρ μ Φ := fun F σ H hs sl Q kt =>
  h F σ H hs sl Q fun v F1 H1 d μ1 ⟨i, q, ds, P, hi, hp, z⟩ e1 hs1 r => kt v F1 H1 d _ z e1 (hs1.turn hi fun u ru => by cases ru with | dk r => exact .ka hp r) r
theorem wSs_close {i : Nat} {q : Addr} {ds : List D} (P : List D → Prop) (hi : μ[i]? = some (q, .lst ds)) (hp : P ds) (h : wSs X sts ρ (μ.set i (q, .la P)) E) : wSs X sts ρ μ E := fun F σ H hs sl D kt =>
  h F σ H (hs.turn hi fun u ru => by cases ru with | lst r => exact .la hp r) sl D kt
theorem wSs_closeK {i : Nat} {q : Addr} {ds : List (Key × D)} (P : List (Key × D) → Prop) (hi : μ[i]? = some (q, .dk ds)) (hp : P ds) (h : wSs X sts ρ (μ.set i (q, .ka P)) E) : wSs X sts ρ μ E := fun F σ H hs sl D kt =>
  h F σ H (hs.turn hi fun u ru => by cases ru with | dk r => exact .ka hp r) sl D kt
/-- a weaker word of a cell -/
theorem wSs_weak {i : Nat} {q : Addr} {P P' : List D → Prop} (hi : μ[i]? = some (q, .la P)) (hp : ∀ ds, P ds → P' ds) (h : wSs X sts ρ (μ.set i (q, .la P')) E) : wSs X sts ρ μ E := fun F σ H hs sl D kt =>
  h F σ H (hs.turn hi fun u ru => by cases ru with | la p r => exact .la (hp _ p) r) sl D kt
end
/-! slots -/
def putR (ρ : Rho) : List Nat → List (Option D) → Rho
  | j :: js, v :: vs => putR (ρ.set j v) js vs
  | _, _ => ρ
def getR (ρ : Rho) (js : List Nat) : List (Option D) := js.map fun j => ρ.getD j none
theorem put_get : ∀ (js : List Nat) (ρ : Rho), putR ρ js (getR ρ js) = ρ
  | [], ρ => rfl
  | j :: js, ρ => by
    have e : ρ.set j (ρ.getD j none) = ρ := by
      refine List.ext_getElem? fun i => ?_
      by_cases hi : j = i
      · subst hi
        by_cases hl : j < ρ.length
        · rw [List.getElem?_set_self hl, List.getD_eq_getElem?_getD, List.getElem?_eq_getElem hl]
          rfl
        · rw [List.getElem?_eq_none (by rw [List.length_set]; omega), List.getElem?_eq_none (by omega)]
      · rw [List.getElem?_set_ne hi]
    show putR (ρ.set j (ρ.getD j none)) js (getR ρ js) = ρ
    rw [e]
    exact put_get js ρ
section
variable {X : Cy} {a b c e : Expr} {st : Stmt} {sts : List Stmt} {ρ : Rho} {μ : Mu} {Φ : D → Mu → Prop} {E : En} {pos p : Pos}
def Turn (ρ : Rho) (js : List Nat) (I : List (Option D) → Mu → Prop) (ρ' : Rho) (μ' : Mu) : Prop := ∃ vs, ρ' = putR ρ js vs ∧ I vs μ'
theorem w_forV {tg iter : Expr} {body : List Stmt} (js : List Nat) (h : wI X tg iter ρ μ fun its μ1 => ∃ (n : Nat) (Iv : Nat → List (Option D) → Mu → Prop), its.length = n ∧ Iv 0 (getR ρ js) μ1 ∧
      (∀ i x vs μ', its[i]? = some x → Iv i vs μ' → wG X tg x (putR ρ js vs) μ' fun ρ2 μ2 => wSs X body ρ2 μ2 { nx := Turn ρ js (Iv (i + 1)), rt := E.rt, bk := E.nx, ct := Turn ρ js (Iv (i + 1)) }) ∧ (∀ vs μ', Iv n vs μ' → E.nx (putR ρ js vs) μ'))
    (hp : PassesOwn (model X.prog X.w) X.A X.env X.xe) (hc : X.calm = true) (hs : ∀ x, foldedSetIterable iter X.env x = pure x := by intro _; rfl) : wS X (.For tg iter body [] pos) ρ μ E :=
  w_for (fun F σ H hh sl R kt => h F σ H hh sl R fun J its F1 μ1 H1 ⟨n, Iv, hn, h0, ht, hd⟩ e1 hs1 wk => kt J its F1 μ1 H1 ⟨fun i ρ' μ' => Turn ρ js (Iv i) ρ' μ', ⟨_, (put_get js ρ).symm, h0⟩, fun i x ρ' μ' hx ⟨vs, hv, iv⟩ => by subst hv; exact ht i x vs μ' hx iv, fun ρ' μ' ⟨vs, hv, iv⟩ => by subst hv; subst hn; exact hd vs μ' iv⟩ e1 hs1 wk) hp hc hs
theorem w_forPV {tg iter : Expr} {body : List Stmt} (js : List Nat) (h : wIP X tg iter ρ μ fun its P μ1 => ∃ (n : Nat) (Iv : Nat → List (Option D) → Mu → Prop), its.length = n ∧ Iv 0 (getR ρ js) μ1 ∧ (∀ i vs μ', Iv i vs μ' → P μ') ∧
      (∀ i x vs μ', its[i]? = some x → Iv i vs μ' → wG X tg x (putR ρ js vs) μ' fun ρ2 μ2 => wSs X body ρ2 μ2 { nx := Turn ρ js (Iv (i + 1)), rt := E.rt, bk := E.nx, ct := Turn ρ js (Iv (i + 1)) }) ∧ (∀ vs μ', Iv n vs μ' → E.nx (putR ρ js vs) μ'))
    (hp : PassesOwn (model X.prog X.w) X.A X.env X.xe) (hc : X.calm = true) (hs : ∀ x, foldedSetIterable iter X.env x = pure x := by intro _; rfl) : wS X (.For tg iter body [] pos) ρ μ E :=
  w_forP (fun F σ H hh sl R kt => h F σ H hh sl R fun J its P F1 μ1 H1 ⟨n, Iv, hn, h0, hP, ht, hd⟩ e1 hs1 wk => kt J its P F1 μ1 H1 ⟨fun i ρ' μ' => Turn ρ js (Iv i) ρ' μ', ⟨_, (put_get js ρ).symm, h0⟩, fun i ρ' μ' ⟨vs, _, iv⟩ => hP i vs μ' iv, fun i x ρ' μ' hx ⟨vs, hv, iv⟩ => by subst hv; exact ht i x vs μ' hx iv, fun ρ' μ' ⟨vs, hv, iv⟩ => by subst hv; subst hn; exact hd vs μ' iv⟩ e1 hs1 wk) hp hc hs
theorem w_whileV {body : List Stmt} (js : List Nat) (Iv : Nat → List (Option D) → Mu → Prop) (m0 : Nat) (h0 : Iv m0 (getR ρ js) μ)
    (ht : ∀ m vs μ', Iv m vs μ' → ∀ ρ', ρ' = putR ρ js vs → wT X c ρ' μ' fun k μ1 => (k = true → wSs X body ρ' μ1 { nx := fun ρ2 μ2 => ∃ vs m', ρ2 = putR ρ js vs ∧ m' < m ∧ Iv m' vs μ2, rt := E.rt, bk := E.nx, ct := fun ρ2 μ2 => ∃ vs m', ρ2 = putR ρ js vs ∧ m' < m ∧ Iv m' vs μ2 }) ∧ (k = false → E.nx ρ' μ1))
    (hp : PassesOwn (model X.prog X.w) X.A X.env X.xe) : wS X (.While c body [] pos) ρ μ E := by
  refine w_while (fun m ρ' μ' => Turn ρ js (Iv m) ρ' μ') m0 ⟨_, (put_get js ρ).symm, h0⟩ (fun m ρ' μ' ⟨vs, hv, iv⟩ => ?_) hp
  subst hv
  refine wt_mono (ht m vs μ' iv _ rfl) fun k μ1 q => ⟨fun hk => ?_, q.2⟩
  intro F σ H hs sl D kt
  exact q.1 hk F σ H hs sl D ⟨fun F1 H1 σ1 ρ1 μ1 ⟨vs', m', e1, h1, h2⟩ => kt.nx F1 H1 σ1 ρ1 μ1 ⟨m', h1, vs', e1, h2⟩, kt.rt, kt.bk, fun F1 H1 σ1 ρ1 μ1 ⟨vs', m', e1, h1, h2⟩ => kt.ct F1 H1 σ1 ρ1 μ1 ⟨m', h1, vs', e1, h2⟩⟩
/-- the slots written out -/
theorem wSs_rho {ρ' : Rho} (e : ρ = ρ') (h : wSs X sts ρ' μ E) : wSs X sts ρ μ E := e ▸ h
theorem wG_rho {tg : Expr} {d : D} {ΦS : Rho → Mu → Prop} {ρ' : Rho} (e : ρ = ρ') (h : wG X tg d ρ' μ ΦS) : wG X tg d ρ μ ΦS := e ▸ h
theorem w_cutV (js : List Nat) (M : List (Option D) → Mu → Prop) (h : wS X st ρ μ { E with nx := Turn ρ js M }) (k : ∀ vs μ', M vs μ' → wSs X sts (putR ρ js vs) μ' E) : wSs X (st :: sts) ρ μ E :=
  w_cut (Turn ρ js M) h fun ρ' μ' ⟨vs, hv, m⟩ => by subst hv; exact k vs μ' m
end
section
variable {X : Cy} {e : Expr} {st : Stmt} {ρ : Rho} {μ : Mu} {Φ : D → Mu → Prop} {E : En}
/-- a list made here, the first cell, stands still behind e -/
theorem w_fz0 (h : wE X e ρ μ fun d μ1 => ∃ p ds μ2, d = .ptr p ∧ μ1 = (p, .lst ds) :: μ2 ∧ Φ (.lst ds) μ2) : wE X e ρ μ Φ := w_fz (w_mono h fun d μ1 ⟨p, ds, μ2, h1, h2, q⟩ => ⟨0, p, ds, h1, by rw [h2]; rfl, by rw [h2]; exact q⟩)
/-- the first cell is needed no more behind e -/
theorem w_dr0 (h : wE X e ρ μ fun d μ1 => ∃ x μ2, μ1 = x :: μ2 ∧ Φ d μ2) : wE X e ρ μ Φ := w_dr (w_mono h fun d μ1 ⟨x, μ2, h1, q⟩ => ⟨μ2, by rw [h1]; exact List.sublist_cons_self _ _, q⟩)
theorem w_never (h : False) : wS X st ρ μ E := h.elim
end
section
variable {X : Cy} {es : List Expr} {ρ : Rho} {μ : Mu} {ΦS : Rho → Mu → Prop} {pos : Pos}
theorem wg_lst {n : Nat} {ds : List D} (hc : X.calm = true) (hl : ds.length = es.length) (h : wGs X es ds ρ μ ΦS) (hn : (assignEach es X.env).length = es.length := by rfl) (hst : (assignEach es X.env).findIdx? (·.1) = none := by rfl) : wG X (.Tuple es n pos) (.lst ds) ρ μ ΦS := fun F σ H v hs sl r Q kt => by
  cases r with
  | lst h1 h2 => exact sg_of (pg_lst hc pgs_s hn hst) ⟨_, _, rfl, Evl.sq_of (hs.ex _ _ h1), h2.length.trans hl, h F σ H _ hs sl h2 Q kt⟩
end
/-! numbers walked -/
abbrev natsD (n : Nat) : List D := (List.range n).map fun i : Nat => D.int i
theorem nats_get {n i : Nat} {d : D} (h : (natsD n)[i]? = some d) : i < n ∧ d = .int i := by
  unfold natsD at h
  rw [List.getElem?_map] at h
  by_cases hi : i < n
  · rw [List.getElem?_range hi] at h
    cases h
    exact ⟨hi, rfl⟩
  · rw [List.getElem?_eq_none (by rw [List.length_range]; omega)] at h
    cases h
theorem nats_len {n : Nat} : (natsD n).length = n := by unfold natsD; rw [List.length_map, List.length_range]
theorem rng_nats (n : Nat) : rngD 0 n = natsD n := by
  unfold rngD natsD
  exact List.map_congr_left fun i _ => by rw [Int.zero_add]
theorem natCast_toNat (n : Nat) : ((n : Nat) : Int).toNat = n := Int.toNat_natCast n
section
variable {X : Cy} {a b c e : Expr} {ρ : Rho} {μ : Mu} {pos p : Pos}
theorem wi_rngN {tg : Expr} {ΦI : List D → Mu → Prop} (hm : X.mg "range" = none) (h : wE X a ρ μ fun d μ1 => ∃ n : Nat, d = .int n ∧ n ≤ 100000000 ∧ ΦI (natsD n) μ1) (hg : Gl X "range" := by rfl) (hs : starEach [a] X.env = [(false, eval a X.env)] := by rfl) : wI X tg (.Call (.Name "range" p) [a] [] pos) ρ μ ΦI :=
  wi_rng1 hm (w_mono h fun d μ' ⟨n, hd, hn, q⟩ => ⟨n, hd, by omega, by rw [Int.toNat_natCast, rng_nats]; exact q⟩) hg hs
theorem wi_rngN2 {tg : Expr} {ΦI : List D → Mu → Prop} (hm : X.mg "range" = none) (h : wE X a ρ μ fun d μ1 => wE X b ρ μ1 fun d' μ2 => ∃ m n : Nat, d = .int m ∧ d' = .int n ∧ (m ≤ 100000000 ∧ n ≤ 100000000) ∧ ΦI ((List.range (n - m)).map fun i : Nat => D.int ((m + i : Nat) : Int)) μ2) (hg : Gl X "range" := by rfl)
    (hs : starEach [a, b] X.env = [(false, eval a X.env), (false, eval b X.env)] := by rfl) (hs2 : starEach [b] X.env = [(false, eval b X.env)] := by rfl) : wI X tg (.Call (.Name "range" p) [a, b] [] pos) ρ μ ΦI :=
  wi_rng2 hm (w_mono h fun d μ' q => w_mono q fun d' μ2 ⟨m, n, hd, hd', hn, q⟩ => ⟨m, n, hd, hd', by omega, by
    have e : rngD (m : Int) ((n : Int) - (m : Int)).toNat = (List.range (n - m)).map fun i : Nat => D.int ((m + i : Nat) : Int) := by
      unfold rngD
      rw [show ((n : Int) - (m : Int)).toNat = n - m by omega]
      exact List.map_congr_left fun i _ => by rw [Int.natCast_add]
    rw [e]
    exact q⟩) hg hs hs2
end
theorem nats2_get {m n i : Nat} {d : D} (h : ((List.range (n - m)).map fun i : Nat => D.int ((m + i : Nat) : Int))[i]? = some d) : m + i < n ∧ d = .int ((m + i : Nat) : Int) := by
  rw [List.getElem?_map] at h
  by_cases hi : i < n - m
  · rw [List.getElem?_range hi] at h
    cases h
    exact ⟨by omega, rfl⟩
  · rw [List.getElem?_eq_none (by rw [List.length_range]; omega)] at h
    cases h
theorem nats2_len {m n : Nat} : ((List.range (n - m)).map fun i : Nat => D.int ((m + i : Nat) : Int)).length = n - m := by rw [List.length_map, List.length_range]
theorem range_get {n i x : Nat} (h : (List.range n)[i]? = some x) : i < n ∧ x = i := by
  by_cases hi : i < n
  · rw [List.getElem?_range hi] at h
    cases h
    exact ⟨hi, rfl⟩
  · rw [List.getElem?_eq_none (by rw [List.length_range]; omega)] at h
    cases h
theorem map_get' {α : Type} {f : α → D} {l : List α} {i : Nat} {y : D} (h : (l.map f)[i]? = some y) : ∃ x, l[i]? = some x ∧ y = f x := by
  rw [List.getElem?_map] at h
  obtain ⟨x, h1, h2⟩ := Option.map_eq_some_iff.mp h
  exact ⟨x, h1, h2.symm⟩
theorem enum_get' {α : Type} {f : α → D} {l : List α} {i : Nat} {y : D} (h : (enumD (l.map f))[i]? = some y) : ∃ x, l[i]? = some x ∧ y = .tup [.int i, f x] := by
  obtain ⟨x, h1, h2⟩ := enumD_get h
  obtain ⟨z, h3, rfl⟩ := map_get' h1
  exact ⟨z, h3, h2⟩
theorem map_at {α : Type} {f : α → D} {l : List α} {i : Nat} {x : α} (h : l[i]? = some x) : (l.map f)[i]? = some (f x) := by rw [List.getElem?_map, h]; rfl
theorem lt_of_get {α : Type} {l : List α} {i : Nat} {x : α} (h : l[i]? = some x) : i < l.length := (List.getElem?_eq_some_iff.mp h).1
theorem get_here {α : Type} {l : List α} {x : α} : (x :: l)[0]? = some x := rfl
theorem get_cons {α : Type} {l : List α} {i : Nat} {x y : α} (h : l[i]? = some x) : (y :: l)[i + 1]? = some x := h
theorem get_set {α : Type} {l : List α} {i : Nat} {x y : α} (h : l[i]? = some x) : (l.set i y)[i]? = some y := List.getElem?_set_self (lt_of_get h)
theorem set_same {α : Type} : ∀ {l : List α} {i : Nat} {x : α}, l[i]? = some x → l.set i x = l
  | [], _, _, h => by simp at h
  | y :: l, 0, x, h => by simp at h; subst h; rfl
  | y :: l, i + 1, x, h => by rw [List.set_cons_succ, set_same (by simpa using h)]
section
variable {X : Cy} {μ : Mu} {Φ : D → Mu → Prop}
theorem ix_litN (l : List Nat) {r : Nat} (h1 : r < l.length) (k : ∀ x, x ∈ l → Φ (.int (x : Nat)) μ) : wIx X (.lst (l.map fun a : Nat => D.int a)) (.int (r : Nat)) μ Φ :=
  ix_lstD r rfl (by rw [List.getElem?_map, List.getElem?_eq_getElem h1]; rfl) (k _ (List.getElem_mem h1))
theorem ix_litNT (l : List Nat) {r : Nat} (h1 : r < l.length) (k : ∀ x, x ∈ l → Φ (.int (x : Nat)) μ) : wIx X (.tup (l.map fun a : Nat => D.int a)) (.int (r : Nat)) μ Φ :=
  ix_tupD r rfl (by rw [List.getElem?_map, List.getElem?_eq_getElem h1]; rfl) (k _ (List.getElem_mem h1))
/-- some item of a list -/
theorem ix_some {l : List D} {r : Nat} (P : D → Prop) (h1 : r < l.length) (hP : ∀ d ∈ l, P d) (k : ∀ d, P d → Φ d μ) : wIx X (.lst l) (.int (r : Nat)) μ Φ :=
  ix_lstD r rfl (List.getElem?_eq_getElem h1) (k _ (hP _ (List.getElem_mem h1)))
theorem ix_someT {l : List D} {r : Nat} (P : D → Prop) (h1 : r < l.length) (hP : ∀ d ∈ l, P d) (k : ∀ d, P d → Φ d μ) : wIx X (.tup l) (.int (r : Nat)) μ Φ :=
  ix_tupD r rfl (List.getElem?_eq_getElem h1) (k _ (hP _ (List.getElem_mem h1)))
end
theorem absN (x : Int) : 0 ≤ (if x < 0 then -x else x) := by split <;> omega
/-! pens -/
def penL3 (ns : List Int) (a l : Int) : List D := [.scr (ns.map D.int), .int a, .int l]
def penP (ns : List Int) (n : Nat) : List D → Prop := fun xs => ∃ a l : Int, xs = penL3 ns a l ∧ 0 ≤ a ∧ a ≤ n ∧ 0 ≤ l
abbrev penO (ns : List Int) (n : Nat) : MO := .la (penP ns n)
theorem penL3_1 {ns : List Int} {a l b : Int} : (penL3 ns a l).set 1 (.int b) = penL3 ns b l := rfl
theorem penL3_2 {ns : List Int} {a l b : Int} : (penL3 ns a l).set 2 (.int b) = penL3 ns a b := rfl
/-- a number is drawn -/
def S_draw : FS := fun ds μ Φ => ∃ (ns : List Int) (n : Nat) (q : Addr) (i : Nat) (many : Int), ds = [.ptr q, .int many] ∧ μ[i]? = some (q, penO ns n) ∧ n ≤ 1000000 ∧ (0 < many ∧ many < 1000000000) ∧
  ∀ (r : Nat) μ', (r : Int) < many → μ' = μ.set i (q, penO ns (n + 1)) → Φ (.int r) μ'
theorem mulBnd {x a : Int} (h0 : 0 ≤ x) (h1 : x < 2147483647) (h2 : 0 ≤ a) (h3 : a ≤ 1000100) : 0 ≤ x * a ∧ x * a ≤ 2147483647 * 1000100 :=
  ⟨Int.mul_nonneg h0 h2, Int.mul_le_mul (by omega) h3 h2 (by omega)⟩
/-! comprehensions without effects -/
section
variable {X : Cy} {elt tg : Expr} {ifs : List Expr} {scope : Scope} {t : Tg} {vs : List Nat} {ρ : Rho} {Φ : D → Mu → Prop} {its : List D} {μ1 : Mu}
abbrev LcQ (X : Cy) (elt : Expr) (ifs : List Expr) (scope : Scope) (t : Tg) (vs : List Nat) (ρ : Rho) (Φ : D → Mu → Prop) (its : List D) (μ1 : Mu) : Prop :=
  its.length ≤ 1000000 ∧ ∃ Iv : Nat → List D → Mu → Prop, Iv 0 [] μ1 ∧
    (∀ p i x acc μ2, its[i]? = some x → Iv i acc μ2 → ∃ ρ', t.put x (wipeR ρ vs) = some ρ' ∧ ∀ s H C cl fp, wTs (blkE X scope s H C cl fp) ifs ρ' ((p, .lst acc) :: μ2) fun k μ4 =>
      (k = true → ∀ s H C cl fp, wE (blkE X scope s H C cl fp) elt ρ' μ4 fun d μ5 => ∃ μ6, μ5 = (p, .lst acc) :: μ6 ∧ Iv (i + 1) (acc ++ [d]) μ6) ∧ (k = false → ∃ μ6, μ4 = (p, .lst acc) :: μ6 ∧ Iv (i + 1) acc μ6)) ∧
    (∀ p acc μ2, Iv its.length acc μ2 → Φ (.ptr p) ((p, .lst acc) :: μ2))
theorem lcW_of {iter : Expr} {μ : Mu} (h : wI X tg iter ρ μ fun its μ1 => LcQ X elt ifs scope t vs ρ Φ its μ1) : LcW X elt tg iter ifs scope t vs ρ μ Φ := h
theorem lcq_map {α : Type} (l : List α) (f : α → D) (g : α → D) (he : its = l.map f) (hl : l.length ≤ 1000000)
    (ht : ∀ (p : Addr) (i : Nat) (x : α), l[i]? = some x → ∃ ρ', t.put (f x) (wipeR ρ vs) = some ρ' ∧ ∀ s H C cl fp, wE (blkE X scope s H C cl fp) elt ρ' ((p, .lst ((l.take i).map g)) :: μ1) fun d μ5 => d = g x ∧ μ5 = (p, .lst ((l.take i).map g)) :: μ1)
    (hd : ∀ p, Φ (.ptr p) ((p, .lst (l.map g)) :: μ1)) : LcQ X elt [] scope t vs ρ Φ its μ1 := by
  subst he
  refine ⟨by rw [List.length_map]; exact hl, fun i acc μ2 => acc = (l.take i).map g ∧ μ2 = μ1, ⟨rfl, rfl⟩, ?_, ?_⟩
  · rintro p i x acc μ2 hx ⟨rfl, rfl⟩
    obtain ⟨y, hy, rfl⟩ := map_get' hx
    obtain ⟨ρ', h1, h2⟩ := ht p i y hy
    refine ⟨ρ', h1, fun _ _ _ _ _ => ⟨fun _ s H C cl fp => w_mono (h2 s H C cl fp) ?_, fun hb => (nomatch hb)⟩⟩
    rintro d μ5 ⟨rfl, rfl⟩
    exact ⟨_, rfl, by rw [filter_next hy, List.map_append]; rfl, rfl⟩
  · rintro p acc μ2 ⟨rfl, rfl⟩
    rw [List.length_map, List.take_of_length_le (Nat.le_refl _)]
    exact hd p
theorem lcq_filt {α : Type} {c : Expr} (l : List α) (f : α → D) (q : α → Bool) (g : α → D) (he : its = l.map f) (hl : l.length ≤ 1000000)
    (ht : ∀ (p : Addr) (i : Nat) (x : α), l[i]? = some x → ∃ ρ', t.put (f x) (wipeR ρ vs) = some ρ' ∧ (∀ s H C cl fp, wT (blkE X scope s H C cl fp) c ρ' ((p, .lst (((l.take i).filter q).map g)) :: μ1) fun k μ4 => k = q x ∧ μ4 = (p, .lst (((l.take i).filter q).map g)) :: μ1) ∧
      (q x = true → ∀ s H C cl fp, wE (blkE X scope s H C cl fp) elt ρ' ((p, .lst (((l.take i).filter q).map g)) :: μ1) fun d μ5 => d = g x ∧ μ5 = (p, .lst (((l.take i).filter q).map g)) :: μ1))
    (hd : ∀ p, Φ (.ptr p) ((p, .lst ((l.filter q).map g)) :: μ1)) : LcQ X elt [c] scope t vs ρ Φ its μ1 := by
  subst he
  refine ⟨by rw [List.length_map]; exact hl, fun i acc μ2 => acc = ((l.take i).filter q).map g ∧ μ2 = μ1, ⟨rfl, rfl⟩, ?_, ?_⟩
  · rintro p i x acc μ2 hx ⟨rfl, rfl⟩
    obtain ⟨y, hy, rfl⟩ := map_get' hx
    obtain ⟨ρ', h1, h2, h3⟩ := ht p i y hy
    refine ⟨ρ', h1, fun s H C cl fp => wt_mono (h2 s H C cl fp) ?_⟩
    rintro k μ4 ⟨rfl, rfl⟩
    refine ⟨fun hb s H C cl fp => w_mono (h3 hb s H C cl fp) ?_, fun hb => ⟨_, rfl, fm_no hy hb, rfl⟩⟩
    rintro d μ5 ⟨rfl, rfl⟩
    exact ⟨_, rfl, fm_yes hy hb, rfl⟩
  · rintro p acc μ2 ⟨rfl, rfl⟩
    rw [List.length_map, List.take_of_length_le (Nat.le_refl _)]
    exact hd p
end
end Oc

/-! Own layer: lists of lists that change, first finds. -/
namespace Oc
open PySem PySem.Spec L2
open Evl (Ex)
def cellsM (L : List (Addr × List D)) : Mu := L.map fun e => (e.1, MO.lst e.2)
def ptrsD (L : List (Addr × List D)) : List D := L.map fun e => .ptr e.1
theorem cells_at {L : List (Addr × List D)} {i : Nat} {a : Addr} {r : List D} (h : L[i]? = some (a, r)) (μ : Mu) : (cellsM L ++ μ)[i]? = some (a, .lst r) := by
  unfold cellsM
  rw [List.getElem?_append_left (by rw [List.length_map]; exact lt_of_get h), List.getElem?_map, h]
  rfl
theorem cells_set {L : List (Addr × List D)} {i : Nat} {a : Addr} {r : List D} (h : L[i]? = some (a, r)) (r' : List D) (μ : Mu) : (cellsM L ++ μ).set i (a, .lst r') = cellsM (L.set i (a, r')) ++ μ := by
  unfold cellsM
  rw [List.set_append_left _ _ (by rw [List.length_map]; exact lt_of_get h), List.map_set]
theorem cells_set1 {L : List (Addr × List D)} {i : Nat} {a : Addr} {r : List D} (h : L[i]? = some (a, r)) {r' : List D} {μ : Mu} {x : Addr × MO} : (x :: (cellsM L ++ μ)).set (i + 1) (a, .lst r') = x :: (cellsM (L.set i (a, r')) ++ μ) := by rw [List.set_cons_succ, cells_set h]
theorem cells_set2 {L : List (Addr × List D)} {i : Nat} {a : Addr} {r : List D} (h : L[i]? = some (a, r)) {r' : List D} {μ : Mu} {x y : Addr × MO} : (x :: y :: (cellsM L ++ μ)).set (i + 2) (a, .lst r') = x :: y :: (cellsM (L.set i (a, r')) ++ μ) := by rw [List.set_cons_succ, List.set_cons_succ, cells_set h]
theorem get_app {A μ : Mu} {i : Nat} {x : Addr × MO} (h : μ[i]? = some x) : (A ++ μ)[A.length + i]? = some x := by rw [List.getElem?_append_right (Nat.le_add_right _ _), Nat.add_sub_cancel_left]; exact h
theorem set_app {A μ : Mu} {i : Nat} {x : Addr × MO} : (A ++ μ).set (A.length + i) x = A ++ μ.set i x := by rw [List.set_append_right _ _ (Nat.le_add_right _ _), Nat.add_sub_cancel_left]
theorem ptrs_at {L : List (Addr × List D)} {i : Nat} {a : Addr} {r : List D} (h : L[i]? = some (a, r)) : (ptrsD L)[i]? = some (.ptr a) := by
  unfold ptrsD
  rw [List.getElem?_map, h]
  rfl
theorem ptrs_set {L : List (Addr × List D)} {i : Nat} {a : Addr} {r : List D} (h : L[i]? = some (a, r)) (r' : List D) : ptrsD (L.set i (a, r')) = ptrsD L := by
  unfold ptrsD
  rw [List.map_set]
  refine List.ext_getElem? fun t => ?_
  by_cases ht : i = t
  · subst ht
    rw [List.getElem?_set_self (by rw [List.length_map]; exact lt_of_get h), List.getElem?_map, h]
    rfl
  · rw [List.getElem?_set_ne ht]
theorem get_of_lt {α : Type} {l : List α} {i : Nat} (h : i < l.length) : ∃ x, l[i]? = some x ∧ x ∈ l := ⟨l[i], List.getElem?_eq_getElem h, List.getElem_mem h⟩
theorem mem_of_set {α : Type} {l : List α} {i : Nat} {x y : α} (h : y ∈ l.set i x) : y ∈ l ∨ y = x := by
  obtain ⟨j, hj, e⟩ := List.mem_iff_getElem.mp h
  by_cases hij : i = j
  · subst hij
    rw [List.getElem_set_self] at e
    exact .inr e.symm
  · rw [List.getElem_set_ne hij] at e
    exact .inl (e ▸ List.getElem_mem _)
theorem mem_of_erase {α : Type} {l : List α} {i : Nat} {y : α} (h : y ∈ l.eraseIdx i) : y ∈ l := (List.eraseIdx_sublist l i).subset h
theorem map_eraseIdx {α β : Type} {f : α → β} : ∀ (l : List α) (i : Nat), (l.map f).eraseIdx i = (l.eraseIdx i).map f
  | [], _ => rfl
  | _ :: _, 0 => rfl
  | a :: l, i + 1 => by
    rw [List.map_cons, List.eraseIdx_cons_succ, List.eraseIdx_cons_succ, List.map_cons, map_eraseIdx l i]
section
variable {X : Cy} {elt tg : Expr} {scope : Scope} {t : Tg} {vs : List Nat} {ρ : Rho} {Φ : D → Mu → Prop} {its : List D} {μ1 : Mu}
/-- each element is a new list that may change -/
theorem lcq_cells {α : Type} (l : List α) (f : α → D) (w : α → List D) (he : its = l.map f) (hl : l.length ≤ 1000000)
    (ht : ∀ (p : Addr) (i : Nat) (x : α) (L : List (Addr × List D)), l[i]? = some x → ∃ ρ', t.put (f x) (wipeR ρ vs) = some ρ' ∧ ∀ s H C cl fp, wE (blkE X scope s H C cl fp) elt ρ' ((p, .lst (ptrsD L)) :: (cellsM L ++ μ1)) fun d μ5 => ∃ r, d = .ptr r ∧ μ5 = (r, .lst (w x)) :: (p, .lst (ptrsD L)) :: (cellsM L ++ μ1))
    (hd : ∀ p L, L.map (·.2) = l.map w → Φ (.ptr p) ((p, .lst (ptrsD L)) :: (cellsM L ++ μ1))) : LcQ X elt [] scope t vs ρ Φ its μ1 := by
  subst he
  refine ⟨by rw [List.length_map]; exact hl, fun i acc μ2 => ∃ L, L.map (·.2) = (l.take i).map w ∧ acc = ptrsD L ∧ μ2 = cellsM L ++ μ1, ⟨[], rfl, rfl, rfl⟩, ?_, ?_⟩
  · rintro p i x acc μ2 hx ⟨L, hL, rfl, rfl⟩
    obtain ⟨y, hy, rfl⟩ := map_get' hx
    obtain ⟨ρ', h1, h2⟩ := ht p i y L hy
    refine ⟨ρ', h1, fun _ _ _ _ _ => ⟨fun _ s H C cl fp => w_pm (w_mono (h2 s H C cl fp) ?_), fun hb => (nomatch hb)⟩⟩
    rintro d μ5 ⟨r, rfl, rfl⟩
    refine ⟨(p, .lst (ptrsD L)) :: (cellsM (L ++ [(r, w y)]) ++ μ1), ?_, _, rfl, L ++ [(r, w y)], ?_, ?_, rfl⟩
    · have e : cellsM (L ++ [(r, w y)]) ++ μ1 = cellsM L ++ (r, MO.lst (w y)) :: μ1 := by unfold cellsM; rw [List.map_append, List.append_assoc]; rfl
      rw [e]
      exact (List.Perm.cons _ List.perm_middle).trans (List.Perm.swap _ _ _)
    · rw [List.map_append, hL, filter_next hy, List.map_append]; rfl
    · unfold ptrsD; rw [List.map_append]; rfl
  · rintro p acc μ2 ⟨L, hL, rfl, rfl⟩
    rw [List.length_map, List.take_of_length_le (Nat.le_refl _)] at hL
    exact hd p L hL
end
section
variable {X : Cy} {μ : Mu} {Φ : D → Mu → Prop}
theorem o_addN {a b : Nat} (k : Φ (.int ((a + b : Nat) : Int)) μ) : wOp X (binaryOp .Add) (.int (a : Nat)) (.int (b : Nat)) μ Φ := o_add (by rw [Int.natCast_add] at k; exact k)
theorem o_mulN {a b : Nat} (hc : a < 2 ^ 64) (k : Φ (.int ((a * b : Nat) : Int)) μ) : wOp X (binaryOp .Mult) (.int (a : Nat)) (.int (b : Nat)) μ Φ := o_mul (.inl ⟨by omega, by omega⟩) (by rw [Int.natCast_mul] at k; exact k)
end
section
variable {X : Cy} {μ : Mu} {Φ : D → Mu → Prop}
theorem o_modN {a b : Nat} (hc : 0 < b) (k : Φ (.int ((a % b : Nat) : Int)) μ) : wOp X (binaryOp .Mod) (.int (a : Nat)) (.int (b : Nat)) μ Φ := o_mod (by omega) (by rw [Int.natCast_emod] at k; exact k)
theorem o_divN {a b : Nat} (hc : 0 < b ∧ b < 1073741824) (k : Φ (.int ((a / b : Nat) : Int)) μ) : wOp X (binaryOp .FloorDiv) (.int (a : Nat)) (.int (b : Nat)) μ Φ := o_div (by omega) (by rw [Int.natCast_ediv] at k; exact k)
end
theorem eqv_lnil (ds : List D) : PyData.eqv (D.lst ds).py (D.lst []).py = ds.isEmpty := by
  cases ds with
  | nil => simp only [D.py, D.pys, PyData.eqv, PyData.eqvAll]; rfl
  | cons a l => simp only [D.py, D.pys, PyData.eqv, PyData.eqvAll]; rfl
theorem eqv_tnil (ds : List D) : PyData.eqv (D.tup ds).py (D.tup []).py = ds.isEmpty := by
  cases ds with
  | nil => simp only [D.py, D.pys, PyData.eqv, PyData.eqvAll]; rfl
  | cons a l => simp only [D.py, D.pys, PyData.eqv, PyData.eqvAll]; rfl
theorem row_snoc {l : List Nat} {a : Nat} : D.tup (l.map (fun a : Nat => D.int a) ++ [.int a]) = .tup ((l ++ [a]).map fun a : Nat => D.int a) := by rw [List.map_append]; rfl
/-! first finds -/
theorem find_first {f : Nat → Bool} {n i : Nat} (hi : i < n) (h : ∀ j, j < i → f j = false) (hf : f i = true) : (List.range n).find? f = some i := by
  rw [List.find?_eq_some_iff_getElem]
  exact ⟨hf, i, by rw [List.length_range]; exact hi, by simp, fun j hj => by simp [h j hj]⟩
theorem find_none {f : Nat → Bool} {n : Nat} (h : ∀ j, j < n → f j = false) : (List.range n).find? f = none := by
  rw [List.find?_eq_none]
  intro x hx
  rw [h x (List.mem_range.mp hx)]
  exact Bool.false_ne_true
theorem all_next {P : Nat → Prop} {i : Nat} (h : ∀ j, j < i → P j) (h1 : P i) : ∀ j, j < i + 1 → P j := fun j hj => by
  by_cases e : j = i
  · subst e; exact h1
  · exact h j (by omega)
theorem no_lt {P : Nat → Prop} : ∀ j, j < 0 → P j := fun j h => absurd h (Nat.not_lt_zero _)
section
variable {X : Cy} {e : Expr} {sts : List Stmt} {ρ : Rho} {μ : Mu} {Φ : D → Mu → Prop} {E : En}
/-- a cell of lists stands still from now on, with the lists in it -/
theorem wSs_dropL {L : List (Addr × List D)} {μ' : Mu} (h : wSs X sts ρ μ' E) (hs : μ'.Sublist μ) : wSs X sts ρ μ E := wSs_sub hs h
end
/-- slices of maps -/
theorem cut_map_to {α : Type} {f : α → D} {l : List α} (n : Nat) : cutD (l.map f) none (some (n : Int)) = (l.take n).map f := by rw [cutD_to, List.map_take]
theorem cut_map_from {α : Type} {f : α → D} {l : List α} (n : Nat) : cutD (l.map f) (some (n : Int)) none = (l.drop n).map f := by rw [cutD_from, List.map_drop]
end Oc

/-! Own layer: dicts of pairs, the least and greatest of a tuple. -/
namespace Oc
open PySem PySem.Spec L2
open Evl (Ex)
open PyProof.Rows (IsTup IntsAre)
open PySem.W (AlikeAll min_tuple_data max_tuple_data minD_ints maxD_ints)
section
variable {X : Cy}
theorem pairsT_of {pins : List (Addr × Obj)} {σ : L2.St} {H : Hp} {s : Shared} (I : Inv X pins σ H s) : ∀ {ps : List Addr} {kvs : List (List Key × V)}, Paired (fun p kv => ∃ b, SqT X.K H p [V.ref b, kv.2] ∧ H b = some (.tup (kv.1.map kV))) ps kvs →
    ∃ prs : List (List Key × Addr × Value), KT H kvs prs ∧ prs.length = ps.length ∧ ∀ (j : Nat) (q : List Key × Addr × Value), prs[j]? = some q → ∃ b : Addr, ps[j]? = some b ∧ IsTup s.heap b #[.ref q.2.1, q.2.2] ∧ (tupleKind (mixKind X.prog X.w)).is s.heap q.1 q.2.1
  | _, _, .nil => ⟨[], .nil, rfl, fun j q e => by simp at e⟩
  | _, _, .cons (a := p) (b := kv) h t => by
    obtain ⟨prs, r, hl, hp⟩ := pairsT_of I t
    obtain ⟨b, h, hb⟩ := h
    obtain ⟨its, rv, ht, _⟩ := I.tuple h
    obtain ⟨u, y, ei, ru, ry⟩ := vals2 rv
    subst ei
    cases (show u = Value.ref b from ru)
    refine ⟨(kv.1, b, y) :: prs, .cons ⟨rfl, hb, ry⟩ r, by rw [List.length_cons, List.length_cons, hl], fun j q e => ?_⟩
    cases j with
    | zero =>
      have e' : (kv.1, b, y) = q := Option.some.inj e
      subst e'
      exact ⟨p, rfl, ht, key_of I.hok hb⟩
    | succ j =>
      obtain ⟨b', e1, e2, e3⟩ := hp j q (by simpa using e)
      exact ⟨b', by simpa using e1, e2, e3⟩
theorem kt_keys {H : Hp} : ∀ {kvs : List (List Key × V)} {prs : List (List Key × Addr × Value)}, KT H kvs prs → prs.map (·.1) = kvs.map (·.1)
  | _, _, .nil => rfl
  | _, _, .cons h t => by rw [List.map_cons, List.map_cons, kt_keys t, h.1]
/-- dict(xs) of a list of pairs (tuple, value), no key twice -/
theorem cr_dictT (hu : X.c.A.units + 64 < cLine) (hc : X.calm = true) : CallR X (.type "dict") (fun xs H Q => ∃ (a : Addr) (ps : List Addr) (kvs : List (List Key × V)), xs = [.ref a] ∧ SqL X.K H a (ps.map V.ref) ∧ Paired (fun p kv => ∃ b, SqT X.K H p [V.ref b, kv.2] ∧ H b = some (.tup (kv.1.map kV))) ps kvs ∧
    (kvs.map (·.1)).Nodup ∧ ∀ p, H p = none → Q (.ref p) (upd H p (.dT kvs))) := by
  intro pins s σ H xs us Q I r q
  obtain ⟨a, ps, kvs, ex, hq, hp, hn, q⟩ := q
  subst ex
  obtain ⟨u, eu, rx⟩ := vals1 r
  subst eu
  cases rx
  obtain ⟨its, rv, pl, hz⟩ := I.list hq
  have ei := refs_at rv
  subst ei
  rw [List.length_map] at hz
  obtain ⟨prs, rel, hl, hpr⟩ := pairsT_of I hp
  obtain ⟨o, n, ho, hc0, hd, hdat⟩ := pl
  have hnp : (prs.map (·.1)).Nodup := by rw [kt_keys rel]; exact hn
  refine call_dict_pairsH (knd := tupleKind (mixKind X.prog X.w)) (ps := prs) (PairArg.list a (ps.map Value.ref).toArray (fun j => ps.getD j 0) (prs.map fun q => (Value.ref q.2.1, q.2.2))) (I.ok.hd hc) (by show _ + 1 + 1 < cLine; omega) ⟨⟨o, n, ho, hc0, hd, hdat⟩, ?_⟩ ?_ ?_ (by rw [List.length_map, hl]; exact hz) fun h' tk hd' k => ?_
  · refine ⟨by simp [hl], fun j kk v hj => ?_⟩
    rw [List.getElem?_map] at hj
    obtain ⟨q', hq', e⟩ := Option.map_eq_some_iff.mp hj
    cases e
    obtain ⟨b, e1, e2, _⟩ := hpr j q' hq'
    show _ = some (Value.ref (ps.getD j 0)) ∧ PairAt s.heap (ps.getD j 0) _ _
    rw [List.getD_eq_getElem?_getD, e1]
    exact ⟨by simp [e1], .inl e2⟩
  · refine ⟨by rw [List.length_map], fun i key v hr => ?_⟩
    have hr' : (prs.map fun q => (Value.ref q.2.1, q.2.2))[i]? = some (key, v) := hr
    rw [List.getElem?_map] at hr'
    obtain ⟨q', hq', e⟩ := Option.map_eq_some_iff.mp hr'
    cases e
    exact ⟨q'.1, q'.2.1, hq', rfl⟩
  · intro h' hk x hx
    obtain ⟨j, hj, e⟩ := List.mem_iff_getElem.mp hx
    obtain ⟨b, _, _, e3⟩ := hpr j x (by rw [List.getElem?_eq_getElem hj, e])
    obtain ⟨o2, vs, n2, h1, h2, h3, h4⟩ := e3
    exact ⟨o2, vs, n2, hk _ _ (Nat.ne_of_lt (Heap.lt_size h1)) (fun z => nomatch z) h1, h2, h3, h4⟩
  · rw [storedAllH_nil_of_nodup prs hnp] at hd'
    have hm : (s.heap.objs.size == sysModules) = false := beq_eq_false_iff_ne.mpr (Nat.ne_of_gt I.big)
    have hlen : kvs.length ≤ sizeLine := by
      have : prs.length = kvs.length := by have := congrArg List.length (kt_keys rel); simpa using this
      omega
    obtain ⟨o', es, ep, g1, g2, g3, g4, _, g5⟩ := hd'
    have hf := I.hok.fresh (Nat.le_refl s.heap.objs.size)
    refine ⟨.ref s.heap.objs.size, upd H s.heap.objs.size (.dT kvs), I.laid (t' := tk) (fun b o e => k b o (fun z => nomatch z) e) (Nat.le_refl _) ⟨hlen, hm, prs, Paired.mapP rel fun p q z => ⟨z.1, ?_, z.2.2⟩, o', es, ep, g1, g2, g3, g4, g5⟩, rfl, q _ hf⟩
    rw [upd_ne (ne_of_none z.2.1 hf)]
    exact z.2.1
end
section
variable {X : Cy} {μ : Mu} {Φ : D → Mu → Prop} {d : D}
theorem rep_pairs {K : PySem.W.Frag} {F H : Hp} (ex : Ex F H) : ∀ {kds : List (List Key × D)} {xs : List V}, Reps K F xs (kds.map fun e => .tup [tkD e.1, e.2]) →
    ∃ (ps : List Addr) (kvs : List (List Key × V)), xs = ps.map V.ref ∧ Paired (fun p kv => ∃ b, SqT K H p [V.ref b, kv.2] ∧ H b = some (.tup (kv.1.map kV))) ps kvs ∧ kvs.map (·.1) = kds.map (·.1) ∧ RepK K F kds kvs
  | [], _, .nil => ⟨[], [], rfl, .nil, rfl, .nil⟩
  | e :: kds, _, .cons r rr => by
    obtain ⟨ps, kvs, h1, h2, h3, h4⟩ := rep_pairs ex rr
    cases r with
    | tup g q =>
      cases q with
      | cons q1 q =>
        cases q with
        | cons q2 q =>
          cases q
          obtain ⟨b, rfl, hb⟩ := rep_tk q1
          rename_i a v
          exact ⟨a :: ps, (e.1, v) :: kvs, by rw [h1]; rfl, .cons ⟨b, Evl.st_of (ex _ _ g), ex _ _ hb⟩ h2, by rw [List.map_cons, List.map_cons, h3], .cons ⟨rfl, q2⟩ h4⟩
theorem c_dictT {kds : List (List Key × D)} (hu : X.c.A.units + 64 < cLine) (hd : d = .lst (kds.map fun e => .tup [tkD e.1, e.2])) (hn : (kds.map (·.1)).Nodup) (k : ∀ p, Φ (.ptr p) ((p, .dt kds) :: μ)) (hc : X.calm = true := by rfl) : wCl X (.type "dict") [d] μ Φ :=
  wcl_of (cr_dictT hu hc) fun F H vs hs r1 Q kt => by
  subst hd
  cases r1 with
  | cons r rr =>
    cases rr
    cases r with
    | lst g r =>
      obtain ⟨ps, kvs, rfl, h2, h3, h4⟩ := rep_pairs hs.ex r
      exact ⟨_, ps, kvs, rfl, Evl.sq_of (hs.ex _ _ g), h2, by rw [h3]; exact hn, fun p hp => kt _ _ _ _ _ (k p) (Ex.refl _) (hs.cell hp (.dt h4)) (.ptr p)⟩
/-- a dict made here stands still behind e -/
theorem w_fzD0 {e : Expr} {ρ : Rho} (h : wE X e ρ μ fun d μ1 => ∃ p ds μ2, d = .ptr p ∧ μ1 = (p, .dt ds) :: μ2 ∧ Φ (.dct (ds.map (·.1)) (ds.map (·.2))) μ2) : wE X e ρ μ Φ := fun F σ H hs sl Q kt pins s I =>
  thn (h F σ H hs sl (fun v H1 => ∃ q kvs, v = .ref q ∧ H1 q = some (.dT kvs) ∧ ∀ od, Q v (upd H1 q (.frz od (.dT kvs)))) (fun v F1 H1 d μ1 ⟨q, ds, μ2, hd, hm, z⟩ e1 hs1 r1 => by
    subst hd
    subst hm
    cases r1
    obtain ⟨kvs, g, rk⟩ := hs1.dt (i := 0) rfl
    obtain ⟨hF, _⟩ := hs1.at_ (i := 0) rfl
    refine ⟨q, kvs, rfl, g, fun od => ?_⟩
    have hsub := hs1.sub (List.sublist_cons_self _ _)
    have hn : ∀ o, (q, o) ∉ μ2 := fun o z => by
      have nd := hs1.nd
      rw [List.map_cons, List.nodup_cons] at nd
      exact nd.1 (List.mem_map.mpr ⟨_, z, rfl⟩)
    have hs2 : Hs X.K F1 μ2 (upd H1 q (.frz od (.dT kvs))) := ⟨fun a o z => by
        rw [upd_ne (ne_of_none z hF)]
        exact hs1.ex a o z, hsub.nd, fun a o z => by
        obtain ⟨h1, u, h2, h3⟩ := hsub.mu a o z
        exact ⟨h1, u, by rw [upd_ne (fun e => by subst e; exact hn o z)]; exact h2, h3⟩, hs1.gr⟩
    obtain ⟨hs3, e3⟩ := hs2.still hF upd_same hn
    obtain ⟨k1, k2⟩ := repK_split rk
    exact kt _ _ _ _ _ z (e1.trans e3) hs3 (.dct upd_same k1 (k2.mono e3))) pins s I) fun u s2 ⟨v, H2, I2, rv, q, kvs, hv, hq, hQ⟩ => by
    obtain ⟨od, I3⟩ := I2.lock hq True.intro
    exact ⟨v, _, I3, rv, hQ od⟩
/-! min, max of a tuple of two -/
theorem ints_room {i j : Int} {n : Nat} (hu : n + 64 < cLine) : n + 1 + PyData.depthAll [.int i, .int j] < cLine := by
  have : PyData.depthAll [.int i, .int j] ≤ 1 := by simp [PyData.depthAll, PyData.depth]
  omega
theorem alike_ints (i j : Int) : AlikeAll [.int i, .int j] := by
  refine ⟨fun x hx y hy => ?_, fun x hx => ?_⟩
  · rcases List.mem_cons.mp hx with rfl | hx
    · rcases List.mem_cons.mp hy with rfl | hy
      · rfl
      · rw [List.mem_singleton] at hy; subst hy; rfl
    · rw [List.mem_singleton] at hx
      subst hx
      rcases List.mem_cons.mp hy with rfl | hy
      · rfl
      · rw [List.mem_singleton] at hy; subst hy; rfl
  · rcases List.mem_cons.mp hx with rfl | hx
    · exact fun e => nomatch e
    · rw [List.mem_singleton] at hx; subst hx; exact fun e => nomatch e
theorem cr_minT (hu : X.c.A.units + 64 < cLine) (hc : X.calm = true) : CallR X (.builtin "min") (fun xs H Q => ∃ (a : Addr) (i j : Int), xs = [.ref a] ∧ SqT X.K H a [.int i, .int j] ∧ Q (.int (min i j)) H) := by
  intro pins s σ H xs us Q I r q
  obtain ⟨a, i, j, rfl, hq, q⟩ := q
  obtain ⟨its, rv, ht, _⟩ := I.tuple hq
  rw [Vals.ref1 r]
  have hi : IntsAre its [i, j] := Vals.ints (ns := [i, j]) rv
  refine min_tuple_data (x := .int i) (xs := [.int j]) (I.ok.hd hc) ht (by rw [show its.toArray.toList = its from rfl]; exact hi.reads s.heap (ns := [i, j])) (alike_ints i j) (ints_room hu) fun i' v h' tk bs hv hr hk => ?_
  have e := minD_ints i [j]
  rw [show ([j].map PyData.int) = [.int j] from rfl] at e
  rw [e] at hr
  obtain ⟨t, rfl, _⟩ := PyProof.Rows.reads_int_inv hr
  exact ⟨.int _, H, I.kept hk, ⟨_, rfl⟩, q⟩
theorem cr_maxT (hu : X.c.A.units + 64 < cLine) (hc : X.calm = true) : CallR X (.builtin "max") (fun xs H Q => ∃ (a : Addr) (i j : Int), xs = [.ref a] ∧ SqT X.K H a [.int i, .int j] ∧ Q (.int (max i j)) H) := by
  intro pins s σ H xs us Q I r q
  obtain ⟨a, i, j, rfl, hq, q⟩ := q
  obtain ⟨its, rv, ht, _⟩ := I.tuple hq
  rw [Vals.ref1 r]
  have hi : IntsAre its [i, j] := Vals.ints (ns := [i, j]) rv
  refine max_tuple_data (x := .int i) (xs := [.int j]) (I.ok.hd hc) ht (by rw [show its.toArray.toList = its from rfl]; exact hi.reads s.heap (ns := [i, j])) (alike_ints i j) (ints_room hu) fun i' v h' tk bs hv hr hk => ?_
  have e := maxD_ints i [j]
  rw [show ([j].map PyData.int) = [.int j] from rfl] at e
  rw [e] at hr
  obtain ⟨t, rfl, _⟩ := PyProof.Rows.reads_int_inv hr
  exact ⟨.int _, H, I.kept hk, ⟨_, rfl⟩, q⟩
theorem c_minT {a b : Nat} (hu : X.c.A.units + 64 < cLine) (k : Φ (.int ((min a b : Nat) : Int)) μ) (hc : X.calm = true := by rfl) : wCl X (.builtin "min") [.tup [.int (a : Nat), .int (b : Nat)]] μ Φ := wcl_of (cr_minT hu hc) fun F H xs hs r1 Q kt => by
  cases r1 with
  | cons r rr =>
    cases rr
    cases r with
    | tup g q =>
      cases q with
      | cons q1 q =>
        cases q with
        | cons q2 q =>
          cases q
          cases q1
          cases q2
          exact ⟨_, a, b, rfl, Evl.st_of (hs.ex _ _ g), by rw [show (min (a : Int) (b : Int)) = ((min a b : Nat) : Int) by omega]; exact kt.now k hs (.int _)⟩
theorem c_maxT {a b : Nat} (hu : X.c.A.units + 64 < cLine) (k : Φ (.int ((max a b : Nat) : Int)) μ) (hc : X.calm = true := by rfl) : wCl X (.builtin "max") [.tup [.int (a : Nat), .int (b : Nat)]] μ Φ := wcl_of (cr_maxT hu hc) fun F H xs hs r1 Q kt => by
  cases r1 with
  | cons r rr =>
    cases rr
    cases r with
    | tup g q =>
      cases q with
      | cons q1 q =>
        cases q with
        | cons q2 q =>
          cases q
          cases q1
          cases q2
          exact ⟨_, a, b, rfl, Evl.st_of (hs.ex _ _ g), by rw [show (max (a : Int) (b : Int)) = ((max a b : Nat) : Int) by omega]; exact kt.now k hs (.int _)⟩
theorem c_min2N {a b : Nat} (k : Φ (.int ((min a b : Nat) : Int)) μ) (hc : X.calm = true := by rfl) : wCl X (.builtin "min") [.int (a : Nat), .int (b : Nat)] μ Φ := c_min2 hc (by
  rw [show (if (b : Int) < (a : Int) then (b : Int) else (a : Int)) = ((min a b : Nat) : Int) by split <;> omega]; exact k)
theorem c_max2N {a b : Nat} (k : Φ (.int ((max a b : Nat) : Int)) μ) (hc : X.calm = true := by rfl) : wCl X (.builtin "max") [.int (a : Nat), .int (b : Nat)] μ Φ := c_max2 hc (by
  rw [show (if (b : Int) > (a : Int) then (b : Int) else (a : Int)) = ((max a b : Nat) : Int) by split <;> omega]; exact k)
end
theorem sd_scr {μ : Mu} {Φ : D → Mu → Prop} {ds : List D} {a b : Option Int} (k : Φ (.lst (cutD ds a b)) μ) : slD (.scr ds) a b μ Φ := k
/-! zip -/
def zipD (xs ys : List D) : List D := (xs.zip ys).map fun p => .tup [p.1, p.2]
theorem zipD_get {xs ys : List D} {i : Nat} {d : D} (h : (zipD xs ys)[i]? = some d) : ∃ x y, xs[i]? = some x ∧ ys[i]? = some y ∧ d = .tup [x, y] := by
  unfold zipD at h
  obtain ⟨e, he, rfl⟩ := map_get' h
  obtain ⟨h1, h2⟩ := List.getElem?_zip_eq_some.mp he
  exact ⟨_, _, h1, h2, rfl⟩
theorem zipD_len {xs ys : List D} : (zipD xs ys).length = min xs.length ys.length := by unfold zipD; rw [List.length_map, List.length_zip]
section
variable {X : Cy} {e f : Expr} {ρ : Rho} {μ : Mu} {pos p tpos : Pos}
theorem wi_zip {elts : List Expr} {kk : Nat} {ΦI : List D → Mu → Prop} (hm : X.mg "zip" = none) (h : wE X e ρ μ fun d1 μ1 => wE X f ρ μ1 fun d2 μ2 => ∃ xs ys, ((d1 = .lst xs ∧ d2 = .lst ys) ∨ (d1 = .tup xs ∧ d2 = .tup ys)) ∧ ΦI (zipD xs ys) μ2) (hg : Gl X "zip" := by rfl)
    (hs : starEach [e, f] X.env = (false, eval e X.env) :: starEach [f] X.env := by rfl) (hs2 : starEach [f] X.env = [(false, eval f X.env)] := by rfl) (hpl : (backTo pos (starEach [f] X.env)).any (·.1) = false := by rfl) :
    wI X (.Tuple elts kk tpos) (.Call (.Name "zip" p) [e, f] [] pos) ρ μ ΦI := fun F σ H hh sl R kt =>
  si_of (RZ.pi_zipA hg hm (pa_cons pe_s (pa_cons pe_s pa_nil hs2) hs) hs hpl) (h F σ H hh sl _ fun v F1 H1 d μ1 q1 e1 hs1 r1 => q1 F1 σ H1 hs1 (sl.mono e1) _ fun v2 F2 H2 d2 μ2 ⟨xs, ys, hd, q⟩ e2 hs2 r2 => by
    rcases hd with ⟨h1, h2⟩ | ⟨h1, h2⟩
    · subst h1
      subst h2
      have r1' := r1.mono e2
      cases r1' with
      | lst g r =>
        cases r2 with
        | lst g2 r2 =>
          rename_i a vs b ws
          refine ⟨a, b, vs, ws, rfl, .inl ⟨Evl.ex_l hs2.ex (Evl.sq_of g), Evl.ex_l hs2.ex (Evl.sq_of g2), kt _ _ F2 μ2 H2 q (e1.trans e2) hs2 fun i F' μ' H' e' hs' => ?_⟩⟩
          have g' : SqL X.K H' a vs := Evl.ex_l hs'.ex (Evl.ex_l e' (Evl.sq_of g))
          have g2' : SqL X.K H' b ws := Evl.ex_l hs'.ex (Evl.ex_l e' (Evl.sq_of g2))
          have l1 := r.length
          have l2 := r2.length
          rw [zipD_len]
          refine ⟨fun hi => ⟨vs, ws, vs[i]'(by omega), ws[i]'(by omega), g', g2', List.getElem?_eq_getElem _, List.getElem?_eq_getElem _⟩, fun hi => ⟨vs, ws, g', g2', by omega⟩, fun x H3 d hy hd => ?_⟩
          obtain ⟨T, y1, y2, rfl, hT, rfl, f1, f2⟩ := hy
          obtain ⟨x1, x2, hx1, hx2, rfl⟩ := zipD_get hd
          obtain ⟨z1, k1, k2⟩ := r.get hx1
          obtain ⟨z2, k3, k4⟩ := r2.get hx2
          cases (f1 _ g').symm.trans k1
          cases (f2 _ g2').symm.trans k3
          obtain ⟨q1, q2⟩ := hs'.laid (u := .tup [y1, y2]) hT
          exact ⟨_, q2, q1, .tup upd_same (.cons ((k2.mono e').mono q2) (.cons ((k4.mono e').mono q2) .nil))⟩
    · subst h1
      subst h2
      have r1' := r1.mono e2
      cases r1' with
      | tup g r =>
        cases r2 with
        | tup g2 r2 =>
          rename_i a vs b ws
          refine ⟨a, b, vs, ws, rfl, .inr ⟨Evl.ex_t hs2.ex (Evl.st_of g), Evl.ex_t hs2.ex (Evl.st_of g2), kt _ _ F2 μ2 H2 q (e1.trans e2) hs2 fun i F' μ' H' e' hs' => ?_⟩⟩
          have g' : SqT X.K H' a vs := Evl.ex_t hs'.ex (Evl.ex_t e' (Evl.st_of g))
          have g2' : SqT X.K H' b ws := Evl.ex_t hs'.ex (Evl.ex_t e' (Evl.st_of g2))
          have l1 := r.length
          have l2 := r2.length
          rw [zipD_len]
          refine ⟨fun hi => ⟨vs, ws, vs[i]'(by omega), ws[i]'(by omega), g', g2', List.getElem?_eq_getElem _, List.getElem?_eq_getElem _⟩, fun hi => ⟨vs, ws, g', g2', by omega⟩, fun x H3 d hy hd => ?_⟩
          obtain ⟨T, y1, y2, rfl, hT, rfl, f1, f2⟩ := hy
          obtain ⟨x1, x2, hx1, hx2, rfl⟩ := zipD_get hd
          obtain ⟨z1, k1, k2⟩ := r.get hx1
          obtain ⟨z2, k3, k4⟩ := r2.get hx2
          cases (f1 _ g').symm.trans k1
          cases (f2 _ g2').symm.trans k3
          obtain ⟨q1, q2⟩ := hs'.laid (u := .tup [y1, y2]) hT
          exact ⟨_, q2, q1, .tup upd_same (.cons ((k2.mono e').mono q2) (.cons ((k4.mono e').mono q2) .nil))⟩)
end
end Oc

/-! Own layer: data in lists, places of data, the length of a dict. -/
namespace Oc
open PySem PySem.Spec L2
open Evl (Ex)
theorem pys_py : ∀ ds : List D, D.pys ds = ds.map D.py
  | [] => by simp only [D.pys]; rfl
  | d :: ds => by simp only [D.pys, List.map_cons]; rw [pys_py ds]
section
variable {X : Cy} {μ : Mu} {Φ : D → Mu → Prop} {d : D} {n k0 : Nat}
theorem o_inPY {q : Addr} {ds : List D} (m : Nat) (hm : μ[m]? = some (q, MO.lst ds)) (hu : X.c.A.units + 65 < cLine) (h1 : Ly d n) (h2 : Lys ds k0) (k : Φ (.bl (ds.any fun z => PyData.eqv z.py d.py)) μ) (hn : n ≤ 60 := by decide) (hk : k0 ≤ 60 := by decide) : wOp X (compareOp .In) d (.ptr q) μ Φ := wop_of (op_inD hu) fun F H u v hs r1 r2 Q kt => by
  cases r2
  obtain ⟨xs, g, rx⟩ := hs.lst hm
  have e : (D.lst ds).py = .list (D.pys ds) := by simp only [D.py]
  have hp : Dp X.K H (.ref q) (.list (D.pys ds)) := .lst (Evl.sq_of g) (reps_py hs.ex rx h2.st)
  refine ⟨_, _, rep_py hs.ex r1 h1.st, hp, h1.shaped (by omega), e ▸ (Ly.lst h2).shaped (by omega), ?_⟩
  rw [pys_py, List.any_map]
  exact kt.now k hs (.bl _)
theorem o_ninPY {q : Addr} {ds : List D} (m : Nat) (hm : μ[m]? = some (q, MO.lst ds)) (hu : X.c.A.units + 65 < cLine) (h1 : Ly d n) (h2 : Lys ds k0) (k : Φ (.bl (!ds.any fun z => PyData.eqv z.py d.py)) μ) (hn : n ≤ 60 := by decide) (hk : k0 ≤ 60 := by decide) : wOp X (compareOp .NotIn) d (.ptr q) μ Φ := wop_of (op_notInD hu) fun F H u v hs r1 r2 Q kt => by
  cases r2
  obtain ⟨xs, g, rx⟩ := hs.lst hm
  have e : (D.lst ds).py = .list (D.pys ds) := by simp only [D.py]
  have hp : Dp X.K H (.ref q) (.list (D.pys ds)) := .lst (Evl.sq_of g) (reps_py hs.ex rx h2.st)
  refine ⟨_, _, rep_py hs.ex r1 h1.st, hp, h1.shaped (by omega), e ▸ (Ly.lst h2).shaped (by omega), ?_⟩
  rw [pys_py, List.any_map]
  exact kt.now k hs (.bl _)
theorem o_inLY {ds : List D} (hu : X.c.A.units + 65 < cLine) (h1 : Ly d n) (h2 : Lys ds k0) (k : Φ (.bl (ds.any fun z => PyData.eqv z.py d.py)) μ) (hn : n ≤ 60 := by decide) (hk : k0 ≤ 60 := by decide) : wOp X (compareOp .In) d (.lst ds) μ Φ := wop_of (op_inD hu) fun F H u v hs r1 r2 Q kt => by
  have e : (D.lst ds).py = .list (D.pys ds) := by simp only [D.py]
  refine ⟨_, D.pys ds, rep_py hs.ex r1 h1.st, e ▸ rep_py hs.ex r2 (Ly.lst h2).st, h1.shaped (by omega), e ▸ (Ly.lst h2).shaped (by omega), ?_⟩
  rw [pys_py, List.any_map]
  exact kt.now k hs (.bl _)
theorem o_ninLY {ds : List D} (hu : X.c.A.units + 65 < cLine) (h1 : Ly d n) (h2 : Lys ds k0) (k : Φ (.bl (!ds.any fun z => PyData.eqv z.py d.py)) μ) (hn : n ≤ 60 := by decide) (hk : k0 ≤ 60 := by decide) : wOp X (compareOp .NotIn) d (.lst ds) μ Φ := wop_of (op_notInD hu) fun F H u v hs r1 r2 Q kt => by
  have e : (D.lst ds).py = .list (D.pys ds) := by simp only [D.py]
  refine ⟨_, D.pys ds, rep_py hs.ex r1 h1.st, e ▸ rep_py hs.ex r2 (Ly.lst h2).st, h1.shaped (by omega), e ▸ (Ly.lst h2).shaped (by omega), ?_⟩
  rw [pys_py, List.any_map]
  exact kt.now k hs (.bl _)
/-- l.index(x), l standing still -/
theorem m_index {ds : List D} (hu : X.c.A.units + 65 < cLine) (j : Nat) {z : D} (h1 : Ly d n) (h2 : Lys ds k0) (hj : ds[j]? = some z) (he : PyData.eqv z.py d.py = true) (hno : ∀ (m : Nat) (z' : D), m < j → ds[m]? = some z' → PyData.eqv z'.py d.py = false) (k : Φ (.int (j : Nat)) μ) (hn : n ≤ 60 := by decide) (hk : k0 ≤ 60 := by decide) :
    wMt X "list" "list.index" (.lst ds) [d] μ Φ := wmt_of (mt_indexD hu) fun F H x xs hs r1 r2 Q kt => by
  have e : (D.lst ds).py = .list (D.pys ds) := by simp only [D.py]
  have hp := e ▸ rep_py hs.ex r1 (Ly.lst h2).st
  cases r2 with
  | cons r rr =>
    cases rr
    cases r1 with
    | lst g rx =>
      refine ⟨_, _, d.py, D.pys ds, j, z.py, rfl, rfl, hp, rep_py hs.ex r h1.st, e ▸ (Ly.lst h2).shaped (by omega), h1.shaped (by omega), ?_, he, fun m z' hm hz => ?_, kt.now k hs (.int _)⟩
      · rw [pys_py, List.getElem?_map, hj]; rfl
      · rw [pys_py, List.getElem?_map] at hz
        obtain ⟨w, hw, rfl⟩ := Option.map_eq_some_iff.mp hz
        exact hno m w hm hw
theorem m_clear {q : Addr} {ds : List D} (m : Nat) (hm : μ[m]? = some (q, .lst ds)) (k : Φ .non (μ.set m (q, .lst []))) : wMt X "list" "list.clear" (.ptr q) [] μ Φ := wmt_of mt_clear fun F H u us hs r1 r2 Q kt => by
  cases r1
  cases r2
  obtain ⟨xs, g, rx⟩ := hs.lst hm
  exact ⟨_, _, rfl, rfl, g, kt.now k (hs.write hm (.lst .nil)) .non⟩
/-- len(d) of a dict with tuples as keys -/
theorem c_lenDT {q : Addr} {ds : List (List Key × D)} (m : Nat) (hm : μ[m]? = some (q, MO.dt ds)) (k : Φ (.int ds.length) μ) : wCl X (.builtin "len") [.ptr q] μ Φ := wcl_of call_len_dT fun F H xs hs r1 Q kt => by
  cases r1 with
  | cons r rr =>
    cases rr
    cases r
    obtain ⟨kvs, g, rk⟩ := hs.dt hm
    refine ⟨_, kvs, rfl, g, ?_⟩
    rw [← rk.len]
    exact kt.now k hs (.int _)
end
section
variable {X : Cy} {o e : Expr} {ρ : Rho} {μ : Mu} {Φ : D → Mu → Prop} {apos cpos : Pos}
theorem w_index (h : wE X o ρ μ fun d μ1 => tyD "list" d μ1 ∧ wA X [e] ρ μ1 fun ds μ2 => wMt X "list" "list.index" d ds μ2 Φ)
    (hbase : attributeBase o "index" X.env (eval o X.env) = eval o X.env := by rfl)
    (hfew : ((backTo cpos (starEach [e] X.env)).all (fun x => !x.1) && (backToKw cpos (keywordEach [] X.env)).all (fun x => x.1.isSome)
      && decide (([e] : List Expr).length + ([] : List Keyword).length + (if ([] : List Keyword).isEmpty then 0 else 1) < 30)) = true := by rfl)
    (hline : (apos.endLine == cpos.line) = true := by rfl) (hs : starEach [e] X.env = (false, eval e X.env) :: starEach [] X.env := by rfl) :
    wE X (.Call (.Attribute o "index" apos) [e] [] cpos) ρ μ Φ := w_bm (by decide) PySem.F.plainAttrs_list PySem.F.slot_list_index PySem.F.type_list_index h hbase hfew hline hs rfl
theorem w_clear (h : wE X o ρ μ fun d μ1 => tyD "list" d μ1 ∧ wMt X "list" "list.clear" d [] μ1 Φ) (hbase : attributeBase o "clear" X.env (eval o X.env) = eval o X.env := by rfl) (hline : (apos.endLine == cpos.line) = true := by rfl) :
    wE X (.Call (.Attribute o "clear" apos) [] [] cpos) ρ μ Φ := w_bm0 (by decide) PySem.F.plainAttrs_list PySem.F.slot_list_clear PySem.F.type_list_clear h hbase hline
end
/-! a list that stands still, or a cell -/
def LV (d : D) (μ : Mu) (ds : List D) : Prop := d = .lst ds ∨ ∃ q, d = .ptr q ∧ ∃ m : Nat, μ[m]? = some (q, MO.lst ds)
theorem LV.cons {d : D} {μ : Mu} {ds : List D} (h : LV d μ ds) (x : Addr × MO) : LV d (x :: μ) ds := by
  rcases h with h | ⟨q, h, m, hm⟩
  · exact .inl h
  · exact .inr ⟨q, h, m + 1, hm⟩
theorem LV.sq {K : KF} {F H : Hp} {μ : Mu} {d : D} {ds : List D} {v : V} (hs : Hs K F μ H) (r : Rep K F v d) (h : LV d μ ds) : ∃ a xs, v = .ref a ∧ SqL K H a xs ∧ Reps K F xs ds := by
  rcases h with rfl | ⟨q, rfl, m, hm⟩
  · cases r with
    | lst g rx => exact ⟨_, _, rfl, Evl.sq_of (hs.ex _ _ g), rx⟩
  · cases r
    obtain ⟨xs, g, rx⟩ := hs.lst hm
    exact ⟨_, xs, rfl, Evl.sq_of g, rx⟩
section
variable {X : Cy} {e : Expr} {ρ : Rho} {μ : Mu} {Φ : D → Mu → Prop} {pos p tpos : Pos}
theorem wi_lv {tg : Expr} {ΦI : List D → (Mu → Prop) → Mu → Prop} (h : wE X e ρ μ fun d μ1 => ∃ ds, LV d μ1 ds ∧ ΦI ds (fun μ' => LV d μ' ds) μ1) : wIP X tg e ρ μ ΦI := fun F σ H hs sl R kt =>
  si_of (pi_list pe_s) (h F σ H hs sl _ fun v F1 H1 d μ1 ⟨ds, hd, z⟩ e1 hs1 r1 => by
    obtain ⟨a, xs, rfl, g, r⟩ := hd.sq hs1 r1
    refine ⟨a, rfl, ⟨xs, g⟩, kt _ ds _ F1 μ1 H1 z e1 hs1 fun i F' μ' H' e' hd' hs' => ?_⟩
    obtain ⟨a', ys, e2, g', r'⟩ := hd'.sq hs' (r1.mono e')
    cases e2
    refine ⟨fun hi => ⟨ys, ys[i]'(by rw [r'.length]; exact hi), g', List.getElem?_eq_getElem _⟩, fun hi => ⟨ys, g', by rw [r'.length]; exact Nat.le_of_eq hi.symm⟩, fun x H2 d hy hd => ?_⟩
    obtain ⟨rfl, fy⟩ := hy
    obtain ⟨y, h1, h2⟩ := r'.get hd
    cases (fy _ g').symm.trans h1
    exact ⟨F', Ex.refl _, hs', h2⟩)
theorem wi_enumLV {elts : List Expr} {kk : Nat} {ΦI : List D → (Mu → Prop) → Mu → Prop} (hm : X.mg "enumerate" = none) (h : wE X e ρ μ fun d μ1 => ∃ ds, LV d μ1 ds ∧ ΦI (enumD ds) (fun μ' => LV d μ' ds) μ1) (hg : Gl X "enumerate" := by rfl) (hs : starEach [e] X.env = [(false, eval e X.env)] := by rfl) :
    wIP X (.Tuple elts kk tpos) (.Call (.Name "enumerate" p) [e] [] pos) ρ μ ΦI := fun F σ H hh sl R kt =>
  si_of (pi_enum hg hm (pa_cons pe_s pa_nil hs) hs) (h F σ H hh sl _ fun v F1 H1 d μ1 ⟨ds, hd, z⟩ e1 hs1 r1 => by
    obtain ⟨a, xs, rfl, g, r⟩ := hd.sq hs1 r1
    refine ⟨a, xs, rfl, g, kt _ _ _ F1 μ1 H1 z e1 hs1 fun i F' μ' H' e' hd' hs' => ?_⟩
    obtain ⟨a', ys, e2, g', r'⟩ := hd'.sq hs' (r1.mono e')
    cases e2
    rw [enumD_len]
    refine ⟨fun hi => ⟨ys, ys[i]'(by rw [r'.length]; exact hi), g', List.getElem?_eq_getElem _⟩, fun hi => ⟨ys, g', by rw [r'.length]; exact Nat.le_of_eq hi.symm⟩, fun x H2 d hy hd => ?_⟩
    obtain ⟨T, y, rfl, hT, rfl, fy⟩ := hy
    obtain ⟨x', hx', rfl⟩ := enumD_get hd
    obtain ⟨z, h1, h2⟩ := r'.get hx'
    cases (fy _ g').symm.trans h1
    obtain ⟨g1, g2⟩ := hs'.laid (u := .tup [.int (i : Nat), y]) hT
    exact ⟨_, g2, g1, .tup upd_same (.cons (.int _) (.cons (h2.mono g2) .nil))⟩)
/-- a number of the module -/
theorem w_glob {z : Str} {n : Int} (hm : ∃ t, X.mg z = some (.int n t)) (k : Φ (.int n) μ) (hg : Gl X z := by rfl) (hd : (z == ("__debug__" : Str)) = false := by decide) : wE X (.Name z pos) ρ μ Φ := fun F σ H hs sl Q kt => by
  obtain ⟨t, hm⟩ := hm
  exact se_of (pe_glob (v := .int n) hg hm ⟨t, rfl⟩ hd) (kt.now k hs (.int n))
end
/-! rows in lists -/
theorem eqv_int (i j : Int) : PyData.eqv (D.int i).py (D.int j).py = decide (i = j) := by
  simp only [D.py, PyData.eqv]
  rw [Bool.eq_iff_iff, beq_iff_eq, decide_eq_true_iff]
theorem eqvAll_nats : ∀ a b : List Nat, PyData.eqvAll (D.pys (a.map fun x : Nat => D.int x)) (D.pys (b.map fun x : Nat => D.int x)) = decide (a = b)
  | [], [] => by simp only [List.map_nil, D.pys, PyData.eqvAll]; rfl
  | [], y :: b => by simp only [List.map_nil, List.map_cons, D.pys, PyData.eqvAll]; rfl
  | x :: a, [] => by simp only [List.map_nil, List.map_cons, D.pys, PyData.eqvAll]; rfl
  | x :: a, y :: b => by
    simp only [List.map_cons, D.pys, PyData.eqvAll]
    rw [eqvAll_nats a b, eqv_int]
    by_cases h : x = y
    · subst h; simp
    · have h' : ¬ ((x : Int) = (y : Int)) := by omega
      simp [h, h']
abbrev rwD (row : List Nat) : D := .tup (row.map fun a : Nat => .int a)
theorem eqv_rows (a b : List Nat) : PyData.eqv (rwD a).py (rwD b).py = decide (a = b) := by
  rw [← eqvAll_nats a b]
  show PyData.eqv (D.tup _).py (D.tup _).py = _
  simp only [D.py, PyData.eqv]
theorem ly_rw (l : List Nat) : Ly (rwD l) 1 := Ly.tup (Lys.map fun a _ => Ly.int a)
theorem rows_any (L : List (List Nat)) (r : List Nat) : ((L.map rwD).any fun z => PyData.eqv z.py (rwD r).py) = decide (r ∈ L) := by
  rw [List.any_map, Bool.eq_iff_iff, List.any_eq_true, decide_eq_true_iff]
  constructor
  · rintro ⟨a, ha, h⟩
    have h : PyData.eqv (rwD a).py (rwD r).py = true := h
    rw [eqv_rows, decide_eq_true_iff] at h
    subst h
    exact ha
  · exact fun h => ⟨r, h, by show PyData.eqv (rwD r).py (rwD r).py = true; rw [eqv_rows]; simp⟩
/-! rows as keys -/
abbrev rk (row : List Nat) : List Key := row.map fun a : Nat => .inl (a : Int)
theorem rk_eq (row : List Nat) : rwD row = tkD (rk row) := by
  show D.tup _ = D.tup _
  rw [List.map_map]
  rfl
theorem rk_inj : ∀ {a b : List Nat}, rk a = rk b → a = b
  | [], [], _ => rfl
  | x :: a, y :: b, h => by
    have h1 : (Sum.inl (x : Int) : Key) = .inl (y : Int) ∧ rk a = rk b := by simpa [rk] using h
    have h2 : (x : Int) = (y : Int) := by cases h1.1; rfl
    rw [rk_inj h1.2, show x = y by omega]
  | [], _ :: _, h => by cases h
  | _ :: _, [], h => by cases h
theorem putD_same {ds : List (List Key × D)} {k : List Key} {v : D} (h : (valD ds k).isSome = true) (hv : ∀ e ∈ ds, e.1 = k → e.2 = v) : putD ds k v = ds := by
  unfold putD
  rw [valD_any, h, if_pos rfl]
  have : (ds.map fun kv => if kv.1 = k then (kv.1, v) else kv) = ds.map id := List.map_congr_left fun e he => by
    by_cases h1 : e.1 = k
    · rw [if_pos h1, ← hv e he h1]; rfl
    · rw [if_neg h1]; rfl
  rw [this, List.map_id]
theorem Rm.un65 {k : Nat} {A : Around} (h : Rm k A) : A.units + 65 < cLine := by have := h.r.un; omega
/-- len(d), d standing still -/
theorem c_lenZ {X : Cy} {μ : Mu} {Φ : D → Mu → Prop} {ks : List (List Key)} {vs : List D} (k : Φ (.int ks.length) μ) : wCl X (.builtin "len") [.dct ks vs] μ Φ := fun F H xs hs r1 Q kt pins s σ us I rv => by
  cases r1 with
  | cons r rr =>
    cases rr
    cases r with
    | dct g e2 rx =>
      obtain ⟨u, rfl, ru⟩ := vals1 rv
      cases ru
      obtain ⟨z, hd, ys, rel, dd⟩ := dt_rd I.hok (.inr ⟨_, hs.ex _ _ g⟩)
      have hl := Paired.length rel
      have hks : ks.length = ys.length := by rw [← e2, List.length_map]; exact hl
      refine call_len_dictH hd dd (by rw [← hl]; rw [sizeLine_eq] at z; omega) ?_
      rw [← hks]
      exact ⟨.int ((ks.length : Nat) : Int), H, I.tok _, ⟨_, rfl⟩, kt.now k hs (.int _)⟩
end Oc

/-! Own layer: the keys of a dict as a list, pairs sorted into a new cell. -/
namespace Oc
open PySem PySem.Spec L2
open Evl (Ex)
/-- a tuple that is there stands still -/
theorem Hs.tupS {K : KF} {F H : Hp} {μ : Mu} (h : Hs K F μ H) {b : Addr} {xs : List V} (hb : H b = some (.tup xs)) : ∃ F', Ex F F' ∧ Hs K F' μ H ∧ F' b = some (.tup xs) := by
  cases e : F b with
  | some u =>
    have := h.ex b u e
    rw [hb] at this
    cases this
    exact ⟨F, Ex.refl F, h, e⟩
  | none =>
    obtain ⟨h1, h2⟩ := h.still e hb fun o q => by
      obtain ⟨_, u, h3, h4⟩ := h.mu b o q
      rw [hb] at h3
      cases h3
      cases h4
    exact ⟨_, h2, h1, upd_same⟩
theorem Hs.tupsS {K : KF} {H : Hp} {μ : Mu} : ∀ {kvs : List (List Key × V)} {bs : List Addr} {F : Hp}, Hs K F μ H → IsKeys H kvs bs → ∃ F', Ex F F' ∧ Hs K F' μ H ∧ Reps K F' (bs.map V.ref) (kvs.map fun e => tkD e.1)
  | _, _, F, h, .nil => ⟨F, Ex.refl F, h, .nil⟩
  | _, _, F, h, .cons hb t => by
    obtain ⟨F1, e1, h1, f1⟩ := h.tupS hb
    obtain ⟨F2, e2, h2, r2⟩ := Hs.tupsS h1 t
    refine ⟨F2, e1.trans e2, h2, .cons (.tup (e2 _ _ f1) ?_) r2⟩
    exact reps_kV _
section
variable {X : Cy} {μ : Mu} {Φ : D → Mu → Prop}
/-- list(d) of a dict with tuples as keys -/
theorem c_lstDT {q : Addr} {ds : List (List Key × D)} (m : Nat) (hm : μ[m]? = some (q, MO.dt ds)) (k : Φ (.lst (ds.map fun e => tkD e.1)) μ) (hc : X.calm = true := by rfl) : wCl X (.type "list") [.ptr q] μ Φ := wcl_of (call_list_dT hc) fun F H xs hs r1 Q kt => by
  cases r1 with
  | cons r rr =>
    cases rr
    cases r
    obtain ⟨kvs, g, rk⟩ := hs.dt hm
    refine ⟨q, kvs, rfl, .inl g, fun p bs hp hk => ?_⟩
    obtain ⟨F1, e1, h1, r1⟩ := hs.tupsS hk
    obtain ⟨g1, g2⟩ := h1.laid (u := .lst (bs.map V.ref)) hp
    have ek : ∀ {ds : List (List Key × D)} {kvs : List (List Key × V)}, RepK X.K F ds kvs → kvs.map (fun e => tkD e.1) = ds.map fun e => tkD e.1 := fun {ds kvs} r => by
      induction r with
      | nil => rfl
      | cons r rr ih => rw [List.map_cons, List.map_cons, ih, r.1]
    rw [ek rk] at r1
    exact kt _ _ _ _ _ k (e1.trans g2) g1 (.lst upd_same (r1.mono g2))
theorem c_sortedPP {d : D} {ps : List (Nat × Nat)} (hd : d = .lst (ps.map natP)) (k : ∀ (ps' : List (Nat × Nat)) (q : Addr), ps'.Perm ps → ps'.Pairwise leP → Φ (.ptr q) ((q, .lst (ps'.map natP)) :: μ)) : wCl X (.builtin "sorted") [d] μ Φ :=
  wcl_of cr_sortedPO fun F H vs hs r1 Q kt => by
  subst hd
  cases r1 with
  | cons r rr =>
    cases rr
    cases r with
    | lst g r =>
      rename_i a xs
      have at_ : ∀ {xs : List V} {ps : List (Nat × Nat)}, Reps X.K F xs (ps.map natP) → (∀ x ∈ xs, ∃ (t : Addr) (i j : Nat), x = .ref t ∧ F t = some (.tup [.int i, .int j])) ∧ xs.map (fun x => ((pairV H x).1.toNat, (pairV H x).2.toNat)) = ps := fun {xs ps} r => by
        induction ps generalizing xs with
        | nil => cases r; exact ⟨fun x hx => (nomatch hx), rfl⟩
        | cons p ps ih =>
          cases r with
          | cons r rr =>
            obtain ⟨h1, h2⟩ := ih rr
            cases r with
            | tup g q =>
              cases q with
              | cons q1 q =>
                cases q with
                | cons q2 q =>
                  cases q
                  cases q1
                  cases q2
                  refine ⟨fun x hx => ?_, ?_⟩
                  · rcases List.mem_cons.mp hx with rfl | hx
                    · exact ⟨_, _, _, rfl, g⟩
                    · exact h1 x hx
                  · rw [List.map_cons, h2]
                    congr 1
                    simp only [pairV, hs.ex _ _ g]
                    exact Prod.ext (by simp) (by simp)
      obtain ⟨h1, h2⟩ := at_ r
      have hat : ∀ x ∈ xs, ∃ (t : Addr) (i j : Nat), x = .ref t ∧ F t = some (.tup [.int i, .int j]) ∧ pairV H x = ((i : Int), (j : Int)) := fun x hx => by
        obtain ⟨t, i, j, rfl, ht⟩ := h1 x hx
        exact ⟨t, i, j, rfl, ht, by simp only [pairV, hs.ex _ _ ht]⟩
      refine ⟨a, xs, pairV H, rfl, Evl.sq_of (hs.ex _ _ g), fun x hx => ?_, fun ys p hsr hst hp => ?_⟩
      · obtain ⟨t, i, j, rfl, ht, e⟩ := hat x hx
        exact ⟨t, rfl, by rw [e]; exact hs.ex _ _ ht⟩
      · have hys : ∀ y ∈ ys, y ∈ xs := fun y hy => hst.perm.mem_iff.mp hy
        have rys : ∀ ys : List V, (∀ y ∈ ys, y ∈ xs) → Reps X.K F ys ((ys.map fun x => ((pairV H x).1.toNat, (pairV H x).2.toNat)).map natP) := fun ys hys => by
          induction ys with
          | nil => exact .nil
          | cons y ys ih =>
            obtain ⟨t, i, j, rfl, ht, e⟩ := hat y (hys y List.mem_cons_self)
            rw [List.map_cons, List.map_cons]
            refine .cons ?_ (ih fun z hz => hys z (List.mem_cons_of_mem _ hz))
            rw [e]
            exact .tup ht (.cons (.int _) (.cons (.int _) .nil))
        refine kt _ _ _ _ _ (k (ys.map fun x => ((pairV H x).1.toNat, (pairV H x).2.toNat)) p (by rw [← h2]; exact hst.perm.map _) ?_) (Ex.refl _) (hs.cell hp (.lst (rys ys hys))) (.ptr p)
        rw [List.pairwise_map]
        refine List.Pairwise.imp_of_mem (fun {x y} hx hy h => ?_) hsr
        obtain ⟨t, i, j, rfl, ht, e1⟩ := hat x (hys x hx)
        obtain ⟨t', i', j', rfl, ht', e2⟩ := hat y (hys y hy)
        have h := SrtO.lexB_no.mp h
        rw [e1, e2] at h
        rw [e1, e2]
        show (i : Int).toNat < (i' : Int).toNat ∨ _
        simp only [Int.toNat_natCast]
        omega
end
end Oc

/-! Own layer: zip of a list beside a tuple, either way about. -/
namespace Oc
open PySem PySem.Spec L2
open Evl (Ex)
/-- t: a tuple, else a list -/
def sqB (t : Bool) (K : PySem.W.Frag) (H : Hp) (a : Addr) (xs : List V) : Prop := match t with
  | false => SqL K H a xs
  | true => SqT K H a xs
def itB (t : Bool) (h : Heap) (it l : Addr) (k : Nat) : Prop := match t with
  | false => h.IsListIter it l k
  | true => h.IsTupleIter it l k
def isB (t : Bool) (h : Heap) (l : Addr) (its : Array Value) : Prop := match t with
  | false => h.IsList l its
  | true => h.IsTuple l its
def clB (t : Bool) : String := match t with
  | false => "list_iterator"
  | true => "tuple_iterator"
theorem itB.keep {t : Bool} {h h' : Heap} {it l : Addr} {k : Nat} (x : itB t h it l k) (e : ∀ o, h.get? it = some o → h'.get? it = some o) : itB t h' it l k := by
  cases t with
  | false => exact Heap.IsListIter.at x e
  | true => exact Heap.IsTupleIter.at x e
theorem isB.keep {t : Bool} {h h' : Heap} {l : Addr} {its : Array Value} (x : isB t h l its) (e : ∀ o, h.get? l = some o → h'.get? l = some o) : isB t h' l its := by
  cases t with
  | false => exact Heap.IsList.at x e
  | true => obtain ⟨o, ho, r⟩ := (show h.IsTuple l its from x); exact ⟨o, e o ho, r⟩
theorem itB.obj {t : Bool} {h : Heap} {it l : Addr} {k : Nat} (x : itB t h it l k) : ∃ o f, h.get? it = some o ∧ o.data = .fields f := by
  cases t with
  | false => obtain ⟨o, e, _, d⟩ := (show h.IsListIter it l k from x); exact ⟨o, _, e, d⟩
  | true => obtain ⟨o, e, _, d⟩ := (show h.IsTupleIter it l k from x); exact ⟨o, _, e, d⟩
theorem isB.lt {t : Bool} {h : Heap} {l : Addr} {its : Array Value} (x : isB t h l its) : l < h.objs.size := by
  cases t with
  | false => obtain ⟨o, ho, _⟩ := (show h.IsList l its from x); exact Heap.lt_size ho
  | true => obtain ⟨o, ho, _⟩ := (show h.IsTuple l its from x); exact Heap.lt_size ho
theorem sqB.ex {t : Bool} {K : PySem.W.Frag} {H H' : Hp} {a : Addr} {xs : List V} (e : Ex H H') (x : sqB t K H a xs) : sqB t K H' a xs := by
  cases t with
  | false => exact Evl.ex_l e x
  | true => exact Evl.ex_t e x
theorem sqB.at_ {X : Cx} {t : Bool} {pins : List (Addr × Obj)} {σ : L2.St} {H : Hp} {s : Shared} {a : Addr} {xs : List V} (I : Inv X pins σ H s) (x : sqB t X.K H a xs) : ∃ its : List Value, Vals xs its ∧ isB t s.heap a its.toArray := by
  cases t with
  | false => obtain ⟨its, r, p, _⟩ := I.list x; exact ⟨its, r, p.isList⟩
  | true => obtain ⟨its, r, p, _⟩ := I.tuple x; exact ⟨its, r, p⟩
theorem sqB.inj {X : Cx} {t : Bool} {pins : List (Addr × Obj)} {σ : L2.St} {H : Hp} {s : Shared} {a : Addr} {xs ys : List V} (I : Inv X pins σ H s) (x : sqB t X.K H a xs) (y : sqB t X.K H a ys) : xs = ys := by
  cases t with
  | false => exact I.list_inj x y
  | true => exact I.tuple_inj x y
section
variable {prog : Program} {w : World} {A : Around} {E : Value → Shared → Prop} {s : Shared} {t t2 : Bool}
theorem nextB_item {it l : Addr} {i : Nat} {items : Array Value} {x : Value} {Q : Value → Shared → Prop} (hit : itB t s.heap it l i) (hl : isB t s.heap l items) (hx : items[i]? = some x)
    (hQ : ∀ h', itB t h' it l (i + 1) → Heap.SameBut it s.heap h' → Q x { s with heap := h' }) : wpAny (model prog w) A (Builtin.SmallTypes.nextOf (.ref it)) Q E s := by
  cases t with
  | false => exact wpAny_nextOf_list_item hit hl hx hQ
  | true => exact RZ.nextOf_tuple_item hit hl hx hQ
theorem nextB_end {it l : Addr} {i : Nat} {items : Array Value} {Q : Value → Shared → Prop} (hh : A.handled = none) (hit : itB t s.heap it l i) (hl : isB t s.heap l items) (hx : items[i]? = none)
    (hE : ∀ h' e, Heap.ExtBut it s.heap h' → (∃ o, h'.get? e = some o ∧ o.cls = .type "StopIteration") → E (.ref e) { s with heap := h' }) : wpAny (model prog w) A (Builtin.SmallTypes.nextOf (.ref it)) Q E s := by
  cases t with
  | false => exact wpAny_nextOf_list_end hh hit hl hx hE
  | true => exact RZ.nextOf_tuple_end hh hit hl hx hE
theorem iterB {l : Addr} {items : Array Value} {Q : Value → Shared → Prop} (hl : isB t s.heap l items) (h : Q (.ref s.heap.objs.size) { s with heap := s.heap.push { cls := .type (clB t), data := .fields #[.ref l, .int 0 0] } }) :
    wpAny (model prog w) A (pyIter (.ref l)) Q E s := by
  cases t with
  | false => exact wpAny_pyIter_list hl h
  | true => exact wpAny_pyIter_tuple hl h
/-- the state of a zip between two turns -/
structure Zst (t t2 : Bool) (z TI TO i1 i2 l1 l2 : Addr) (k : Nat) (h : Heap) : Prop where
  zp : IsZip h z TI TO .none
  ti : IsPair h TI (.ref i1) (.ref i2)
  to : ∃ x y, IsPair h TO x y
  i1 : itB t h i1 l1 k
  i2 : itB t2 h i2 l2 k
variable {z TI TO i1 i2 l1 l2 : Addr} {k : Nat} {xs ys : Array Value}
/-- two items, handed out as a new pair -/
theorem zipB_item {x y : Value} {Q : Value → Shared → Prop} (D : ZipApart z TI TO i1 i2 l1 l2) (S : Zst t t2 z TI TO i1 i2 l1 l2 k s.heap) (h1 : isB t s.heap l1 xs) (h2 : isB t2 s.heap l2 ys) (hx : xs[k]? = some x) (hy : ys[k]? = some y)
    (hQ : ∀ h', IsZip h' z TI TO (rawInt s.heap.objs.size) → IsPair h' TI (.ref i1) (.ref i2) → (∃ a b, IsPair h' TO a b) → itB t h' i1 l1 (k + 1) → itB t2 h' i2 l2 (k + 1) → IsPair h' s.heap.objs.size x y →
      (∀ c o, c ≠ z → c ≠ TO → c ≠ i1 → c ≠ i2 → s.heap.get? c = some o → h'.get? c = some o) → Q (.ref s.heap.objs.size) { s with heap := h' }) :
    wpAny (model prog w) A (Builtin.«zip.__next__» ⟨[.ref z], []⟩) (fun fin s' => ∃ v, fin = .done (.ret v) ∧ Q v s') E s := by
  obtain ⟨hz, hTI, ⟨a, b, hTO⟩, S1, S2⟩ := S
  show wpAny _ _ (field (.ref z) 2 >>= _) _ _ _
  refine wpAny_bind (wpAny_field hz rfl (x := .bool false) rfl ?_)
  show wpAny _ _ (field (.ref z) 3 >>= _) _ _ _
  refine wpAny_bind (wpAny_field hz rfl (x := .ref TI) rfl (wpAny_bind (wpAny_seqItems hTI rfl ?_)))
  show wpAny _ _ (Builtin.SmallTypes.ownedTupleIsFree (.ref z) >>= _) _ _ _
  unfold Builtin.SmallTypes.ownedTupleIsFree
  refine wpAny_bind (wpAny_bind (wpAny_field hz rfl (x := .none) rfl (wpAny_pure ?_)))
  simp only [if_true]
  refine wpAny_bind (wpAny_rule (wpAny_bind (wpAny_field hz rfl (x := .ref TO) rfl (wpAny_bind (wpAny_setField_rec hz (by simp) fun g1 z1 b1 => ?_)))))
  replace z1 : IsZip g1 z TI TO .ellipsis := z1
  simp only [List.zipIdx_cons, List.zipIdx_nil, List.forIn_cons, List.forIn_nil]
  refine wpAny_bind (wpAny_bind (wpAny_bind (wpAny_onRaise ?_)))
  show wpAny _ _ (Builtin.SmallTypes.nextOf (.ref i1) >>= _) _ _ _
  refine wpAny_bind (nextB_item (S1.keep fun o e => b1.extBut _ o D.i1z e) (h1.keep fun o e => b1.extBut _ o D.l1z e) hx fun g2 S1' b2 => wpAny_pure ?_)
  have p2 : IsPair g2 TO a b := b2.extBut _ _ D.TOi1 (b1.extBut _ _ D.TOz hTO)
  refine wpAny_bind (wpAny_seqItems p2 rfl (wpAny_bind (wpAny_updateSeq_pair p2 fun g3 p3 b3 => wpAny_bind (wpAny_letGo (wpAny_pure ?_)))))
  replace p3 : IsPair g3 TO x b := p3
  refine wpAny_bind (wpAny_bind (wpAny_onRaise ?_))
  show wpAny _ _ (Builtin.SmallTypes.nextOf (.ref i2) >>= _) _ _ _
  have k3 : ∀ c o, c ≠ z → c ≠ TO → c ≠ i1 → s.heap.get? c = some o → g3.get? c = some o := fun c o q1 q2 q3 e => b3.extBut _ _ q2 (b2.extBut _ _ q3 (b1.extBut _ _ q1 e))
  refine wpAny_bind (nextB_item (S2.keep fun o e => k3 _ o D.i2z D.TOi2.symm D.i12.symm e) (h2.keep fun o e => k3 _ o D.l2z D.l2TO D.l2i1 e) hy fun g4 S2' b4 => wpAny_pure ?_)
  have p4 : IsPair g4 TO x b := b4.extBut _ _ D.TOi2 p3
  refine wpAny_bind (wpAny_seqItems p4 rfl (wpAny_bind (wpAny_updateSeq_pair p4 fun g5 p5 b5 => wpAny_bind (wpAny_letGo (wpAny_pure (wpAny_pure ?_))))))
  replace p5 : IsPair g5 TO x y := p5
  refine wpAny_bind (wpAny_seqItems p5 rfl (wpAny_bind (wpAny_newTuple ?_)))
  have n5 : g5.objs.size = s.heap.objs.size := by rw [b5.1, b4.1, b3.1, b2.1, b1.1]
  have z5 : IsZip g5 z TI TO .ellipsis := b5.extBut _ _ D.TOz.symm (b4.extBut _ _ D.i2z.symm (b3.extBut _ _ D.TOz.symm (b2.extBut _ _ D.i1z.symm z1)))
  have k5 : ∀ c o, c ≠ z → c ≠ TO → c ≠ i1 → c ≠ i2 → s.heap.get? c = some o → g5.get? c = some o := fun c o q1 q2 q3 q4 e => b5.extBut _ _ q2 (b4.extBut _ _ q4 (k3 c o q1 q2 q3 e))
  have S1'' : itB t g5 i1 l1 (k + 1) := S1'.keep fun o e => b5.extBut _ _ D.TOi1.symm (b4.extBut _ _ D.i12 (b3.extBut _ _ D.TOi1.symm e))
  have S2'' : itB t2 g5 i2 l2 (k + 1) := S2'.keep fun o e => b5.extBut _ _ D.TOi2.symm e
  have zlt : z < g5.objs.size := Heap.lt_size z5
  show wpAny _ _ (Builtin.SmallTypes.ownedTupleHandOut (.ref z) (.ref g5.objs.size) >>= _) _ _ _
  unfold Builtin.SmallTypes.ownedTupleHandOut
  have z6 : IsZip (g5.push { cls := .type "tuple", data := .seq #[x, y] }) z TI TO .ellipsis := Heap.get?_push_of_some _ z5
  refine wpAny_bind (wpAny_bind (wpAny_setField_rec z6 (by simp) fun g7 z7 b7 => ?_))
  replace z7 : IsZip g7 z TI TO (rawInt g5.objs.size) := z7
  refine wpAny_setField_rec z7 (by simp) fun g8 z8 b8 => ?_
  replace z8 : IsZip g8 z TI TO (rawInt g5.objs.size) := z8
  have up : ∀ c o, c ≠ z → g5.get? c = some o → g8.get? c = some o := fun c o q e => b8.extBut _ _ q (b7.extBut _ _ q (Heap.get?_push_of_some _ e))
  have t8 : IsPair g8 g5.objs.size x y := b8.extBut _ _ (Nat.ne_of_gt zlt) (b7.extBut _ _ (Nat.ne_of_gt zlt) (Heap.get?_push_size _ rfl))
  rw [n5] at z8 t8
  refine wpAny_pure ⟨_, rfl, ?_⟩
  show Q (.ref g5.objs.size) _
  rw [n5]
  exact hQ g8 z8 (up _ _ D.TIz (k5 _ _ D.TIz D.TITO D.TIi1 D.TIi2 hTI)) ⟨x, y, up _ _ D.TOz p5⟩ (S1''.keep fun o e => up _ o D.i1z e) (S2''.keep fun o e => up _ o D.i2z e) t8 fun c o q1 q2 q3 q4 e => up c o q1 (k5 c o q1 q2 q3 q4 e)
/-- one of both is at its end -/
theorem zipB_end {Q : Fin → Shared → Prop} (hh : A.handled = none) (D : ZipApart z TI TO i1 i2 l1 l2) (S : Zst t t2 z TI TO i1 i2 l1 l2 k s.heap) (h1 : isB t s.heap l1 xs) (h2 : isB t2 s.heap l2 ys) (he : xs[k]? = none ∨ ys[k]? = none)
    (hE : ∀ h' e, (∀ c o, c ≠ z → c ≠ TO → c ≠ i1 → c ≠ i2 → s.heap.get? c = some o → h'.get? c = some o) → (∃ o, h'.get? e = some o ∧ o.cls = .type "StopIteration") → E (.ref e) { s with heap := h' }) :
    wpAny (model prog w) A (Builtin.«zip.__next__» ⟨[.ref z], []⟩) Q E s := by
  obtain ⟨hz, hTI, ⟨a, b, hTO⟩, S1, S2⟩ := S
  show wpAny _ _ (field (.ref z) 2 >>= _) _ _ _
  refine wpAny_bind (wpAny_field hz rfl (x := .bool false) rfl ?_)
  show wpAny _ _ (field (.ref z) 3 >>= _) _ _ _
  refine wpAny_bind (wpAny_field hz rfl (x := .ref TI) rfl (wpAny_bind (wpAny_seqItems hTI rfl ?_)))
  show wpAny _ _ (Builtin.SmallTypes.ownedTupleIsFree (.ref z) >>= _) _ _ _
  unfold Builtin.SmallTypes.ownedTupleIsFree
  refine wpAny_bind (wpAny_bind (wpAny_field hz rfl (x := .none) rfl (wpAny_pure ?_)))
  simp only [if_true]
  refine wpAny_bind (wpAny_rule (wpAny_bind (wpAny_field hz rfl (x := .ref TO) rfl (wpAny_bind (wpAny_setField_rec hz (by simp) fun g1 z1 b1 => ?_)))))
  replace z1 : IsZip g1 z TI TO .ellipsis := z1
  simp only [List.zipIdx_cons, List.zipIdx_nil, List.forIn_cons, List.forIn_nil]
  refine wpAny_bind (wpAny_bind (wpAny_bind (wpAny_onRaise ?_)))
  show wpAny _ _ (Builtin.SmallTypes.nextOf (.ref i1) >>= _) _ _ _
  cases hx : xs[k]? with
  | none =>
    refine wpAny_bind (nextB_end hh (S1.keep fun o e => b1.extBut _ o D.i1z e) (h1.keep fun o e => b1.extBut _ o D.l1z e) hx fun g2 e b2 ⟨oe, q1, q2⟩ => ?_)
    have z2 : IsZip g2 z TI TO .ellipsis := b2 _ _ D.i1z.symm z1
    have ne : e ≠ z := fun q => by subst q; rw [z2] at q1; cases q1; simp at q2
    exact wpAny_setField_rec z2 (by simp) fun g3 _ b3 => hE g3 e (fun c o c1 _ c3 _ q => b3.extBut _ _ c1 (b2 _ _ c3 (b1.extBut _ _ c1 q))) ⟨oe, b3.extBut _ _ ne q1, q2⟩
  | some x =>
    have hy : ys[k]? = none := he.resolve_left (by rw [hx]; exact fun q => nomatch q)
    refine wpAny_bind (nextB_item (S1.keep fun o e => b1.extBut _ o D.i1z e) (h1.keep fun o e => b1.extBut _ o D.l1z e) hx fun g2 S1' b2 => wpAny_pure ?_)
    have p2 : IsPair g2 TO a b := b2.extBut _ _ D.TOi1 (b1.extBut _ _ D.TOz hTO)
    refine wpAny_bind (wpAny_seqItems p2 rfl (wpAny_bind (wpAny_updateSeq_pair p2 fun g3 p3 b3 => wpAny_bind (wpAny_letGo (wpAny_pure ?_)))))
    refine wpAny_bind (wpAny_bind (wpAny_onRaise ?_))
    show wpAny _ _ (Builtin.SmallTypes.nextOf (.ref i2) >>= _) _ _ _
    have k3 : ∀ c o, c ≠ z → c ≠ TO → c ≠ i1 → s.heap.get? c = some o → g3.get? c = some o := fun c o q1 q2 q3 e => b3.extBut _ _ q2 (b2.extBut _ _ q3 (b1.extBut _ _ q1 e))
    refine wpAny_bind (nextB_end hh (S2.keep fun o e => k3 _ o D.i2z D.TOi2.symm D.i12.symm e) (h2.keep fun o e => k3 _ o D.l2z D.l2TO D.l2i1 e) hy fun g4 e b4 ⟨oe, q1, q2⟩ => ?_)
    have z4 : IsZip g4 z TI TO .ellipsis := b4 _ _ D.i2z.symm (b3.extBut _ _ D.TOz.symm (b2.extBut _ _ D.i1z.symm z1))
    have ne : e ≠ z := fun q => by subst q; rw [z4] at q1; cases q1; simp at q2
    exact wpAny_setField_rec z4 (by simp) fun g5 _ b5 => hE g5 e (fun c o c1 c2 c3 c4 q => b5.extBut _ _ c1 (b4 _ _ c4 (k3 c o c1 c2 c3 q))) ⟨oe, b5.extBut _ _ ne q1, q2⟩
end
/-- the items of both, at each turn, in new pairs -/
def ItzB (t t2 : Bool) (K : PySem.W.Frag) (a b : Addr) : L2.It :=
  ⟨fun i H => ∃ (xs ys : List V) (x y : V), sqB t K H a xs ∧ sqB t2 K H b ys ∧ xs[i]? = some x ∧ ys[i]? = some y,
    fun i H v H' => ∃ T x y, v = .ref T ∧ H T = none ∧ H' = upd H T (.tup [x, y]) ∧ (∀ xs, sqB t K H a xs → xs[i]? = some x) ∧ ∀ ys, sqB t2 K H b ys → ys[i]? = some y,
    fun i H => ∃ xs ys : List V, sqB t K H a xs ∧ sqB t2 K H b ys ∧ (xs.length ≤ i ∨ ys.length ≤ i)⟩
theorem turn_zipB {t t2 : Bool} {P : Program} {w : World} {K : PySem.W.Frag} {elts : List Expr} {kk : Nat} {tpos : Pos} {a b z TI TO i1 i2 : Addr} (D : ZipApart z TI TO i1 i2 a b) :
    L2.Turn P w K (.Tuple elts kk tpos) (ItzB t t2 K a b) [z, TI, TO, i1, i2] z (fun i h => Zst t t2 z TI TO i1 i2 a b i h) where
  mem := by simp
  obj := fun i h st c hc => by
    obtain ⟨o1, f1, e1, d1⟩ := st.i1.obj
    obtain ⟨o2, f2, e2, d2⟩ := st.i2.obj
    obtain ⟨x, y, hTO⟩ := st.to
    have e' : c = z ∨ c = TI ∨ c = TO ∨ c = i1 ∨ c = i2 := by simpa using hc
    rcases e' with rfl | rfl | rfl | rfl | rfl
    · exact ⟨_, st.zp, fun v q => nomatch q⟩
    · exact ⟨_, st.ti, fun v q => nomatch q⟩
    · exact ⟨_, hTO, fun v q => nomatch q⟩
    · exact ⟨o1, e1, fun v q => by rw [d1] at q; cases q⟩
    · exact ⟨o2, e2, fun v q => by rw [d2] at q; cases q⟩
  keep := fun i h h' st k => by
    obtain ⟨x, y, hTO⟩ := st.to
    exact ⟨k z (by simp) _ st.zp, k TI (by simp) _ st.ti, ⟨x, y, k TO (by simp) _ hTO⟩, st.i1.keep fun o q => k i1 (by simp) o q, st.i2.keep fun o q => k i2 (by simp) o q⟩
  item := by
    intro X hP hw hK hc i pins s σ H E I hf st hg
    subst hP hw hK
    obtain ⟨xs, ys, x, y, hqx, hqy, hx, hy⟩ := hg
    obtain ⟨its, rv, p⟩ := hqx.at_ I
    obtain ⟨its2, rv2, p2⟩ := hqy.at_ I
    obtain ⟨u, hu, ru⟩ := rv.get hx
    obtain ⟨u2, hu2, ru2⟩ := rv2.get hy
    have hzl : z < s.heap.objs.size := Heap.lt_size st.zp
    have hT : s.TypeIs (.ref z) "zip" := ⟨_, st.zp, rfl⟩
    unfold pyNext
    refine wpAny_bind (wpAny_attempt (wpAny_callSpecial?_slot (name := Str.ofString "__next__") hT F.slot_zip_next (wpAny_call_entry F.slot_zip_next hT F.entry_zip_next
      (zipB_item D st p p2 (x := u) (y := u2) (by simpa using hu) (by simpa using hu2) fun h' z' ti' to' h1' h2' hT' hk => wpAny_pure ?_) (F.args_zip_next_1 _))))
    refine ⟨_, rfl, wpAny_letOwnedTupleGo_zip (s := { s with heap := h' }) z' fun h'' z'' sb => ?_⟩
    obtain ⟨a', b', to'⟩ := to'
    have hT2 : h''.get? s.heap.objs.size = some { cls := .type "tuple", data := .seq #[u, u2] } := (sb.2 _ (Nat.ne_of_gt hzl)).trans hT'
    have new : ObjOk X.prog X.w (upd H s.heap.objs.size (.tup [x, y])) h'' s.heap.objs.size (.tup [x, y]) :=
      ⟨by show 2 ≤ sizeLine; decide, [u, u2], .cons ru (.cons ru2 .nil), ⟨_, hT2, rfl, _, rfl⟩⟩
    have I1 : Inv X pins σ (upd H s.heap.objs.size (.tup [x, y])) { s with heap := h'' } :=
      I.turnedNew (t' := s.toks) (ch := [z, TI, TO, i1, i2]) (fun c o hb q => (sb.2 c (fun q' => hb (by simp [q']))).trans (hk c o (fun q' => hb (by simp [q'])) (fun q' => hb (by simp [q'])) (fun q' => hb (by simp [q'])) (fun q' => hb (by simp [q'])) q)) hf (Nat.le_refl _) new
    have up : ∀ c o, c ≠ z → h'.get? c = some o → h''.get? c = some o := fun c o q e => (sb.2 c q).trans e
    refine ⟨.ref s.heap.objs.size, _, I1, rfl, ⟨_, x, y, rfl, I.hok.fresh (Nat.le_refl _), rfl, fun l hl => by rw [hl.inj I hqx]; exact hx, fun l hl => by rw [hl.inj I hqy]; exact hy⟩,
      ⟨z'', up _ _ D.TIz ti', ⟨a', b', up _ _ D.TOz to'⟩, h1'.keep fun o e => up _ o D.i1z e, h2'.keep fun o e => up _ o D.i2z e⟩, fun c hcm => ?_⟩
    have hlt : c < s.heap.objs.size := by
      obtain ⟨x', y', hTO⟩ := st.to
      obtain ⟨_, _, e1, _⟩ := st.i1.obj
      obtain ⟨_, _, e2, _⟩ := st.i2.obj
      have e' : c = z ∨ c = TI ∨ c = TO ∨ c = i1 ∨ c = i2 := by simpa using hcm
      rcases e' with rfl | rfl | rfl | rfl | rfl
      · exact hzl
      · exact Heap.lt_size st.ti
      · exact Heap.lt_size hTO
      · exact Heap.lt_size e1
      · exact Heap.lt_size e2
    rw [upd_ne (Nat.ne_of_lt hlt)]
    exact (hf c hcm).1
  done := by
    intro X hP hw hK hc i pins s σ H E I hf st hg
    subst hP hw hK
    obtain ⟨xs, ys, hqx, hqy, hend⟩ := hg
    obtain ⟨its, rv, p⟩ := hqx.at_ I
    obtain ⟨its2, rv2, p2⟩ := hqy.at_ I
    have l1 := rv.length
    have l2 := rv2.length
    have he : its.toArray[i]? = none ∨ its2.toArray[i]? = none := by
      rcases hend with q | q
      · exact .inl (by simp; omega)
      · exact .inr (by simp; omega)
    have hT : s.TypeIs (.ref z) "zip" := ⟨_, st.zp, rfl⟩
    unfold pyNext
    refine wpAny_bind (wpAny_attempt (wpAny_callSpecial?_slot (name := Str.ofString "__next__") hT F.slot_zip_next (wpAny_call_entry F.slot_zip_next hT F.entry_zip_next
      (zipB_end (I.ok.hd hc) D st p p2 he fun h' e hk ⟨o, ho, hc'⟩ => ?_) (F.args_zip_next_1 _))))
    refine wpAny_bind (wpAny_isInstance (T := "StopIteration") (b := true) ⟨o, ho, hc'⟩ isSubtype_stop (wpAny_pure ⟨rfl, ?_⟩))
    exact I.turnedL (t' := s.toks) (ch := [z, TI, TO, i1, i2]) (fun c o hb q => hk c o (fun q' => hb (by simp [q'])) (fun q' => hb (by simp [q'])) (fun q' => hb (by simp [q'])) (fun q' => hb (by simp [q'])) q) hf
  self := fun A i s Q E st h => wpAny_pyIter_zip st.zp h
/-- the objects that zip(l1, l2) lays -/
abbrev zB1 (t : Bool) (h : Heap) (l1 : Addr) : Heap := h.push { cls := .type (clB t), data := .fields #[.ref l1, .int 0 0] }
abbrev zB2 (t t2 : Bool) (h : Heap) (l1 l2 : Addr) : Heap := zB1 t2 (zB1 t h l1) l2
abbrev zB3 (t t2 : Bool) (h : Heap) (l1 l2 : Addr) : Heap := (zB2 t t2 h l1 l2).push { cls := .type "tuple", data := .seq #[.ref h.objs.size, .ref (zB1 t h l1).objs.size] }
abbrev zB4 (t t2 : Bool) (h : Heap) (l1 l2 : Addr) : Heap := (zB3 t t2 h l1 l2).push { cls := .type "tuple", data := .seq #[.none, .none] }
abbrev zB5 (t t2 : Bool) (h : Heap) (l1 l2 : Addr) : Heap := (zB4 t t2 h l1 l2).push { cls := .type "zip", data := .fields #[.none, .bool false, .bool false, .ref (zB2 t t2 h l1 l2).objs.size, .ref (zB3 t t2 h l1 l2).objs.size] }
theorem meets_zipB (t t2 : Bool) (l1 l2 : Addr) (xs ys : Array Value) :
    Meets (Builtin.«zip.__new__» ⟨[.type "zip", .ref l1, .ref l2], []⟩) (fun _ R s => isB t s.heap l1 xs ∧ isB t2 s.heap l2 ys ∧ R (.ok (.ret (.ref (zB4 t t2 s.heap l1 l2).objs.size))) { s with heap := zB5 t t2 s.heap l1 l2 }) :=
  .of_wp fun prog w A R s h => by
    obtain ⟨hp, g, d, tk, os⟩ := s
    obtain ⟨h1, h2, h⟩ := h
    have hsub := sub_zip
    have hL1 : isB t (Shared.heap ⟨hp, g, d, tk, os⟩) l1 xs := h1
    have hL2 : isB t2 (Shared.heap ⟨zB1 t hp l1, g, d, tk, os⟩) l2 ys := h2.keep fun o e => Heap.get?_push_of_some _ e
    wp_walk using iterB hL1, iterB hL2
    exact ⟨_, rfl, h⟩
section
variable {prog : Program} {w : World} {A : Around} {E : Value → Shared → Prop} {s : Shared} {t t2 : Bool}
theorem call_zipB {l1 l2 : Addr} {xs ys : Array Value} {Q : Value → Shared → Prop} (h1 : isB t s.heap l1 xs) (h2 : isB t2 s.heap l2 ys)
    (h : ∀ h', Zst t t2 (s.heap.objs.size + 4) (s.heap.objs.size + 2) (s.heap.objs.size + 3) s.heap.objs.size (s.heap.objs.size + 1) l1 l2 0 h' → (∀ c o, s.heap.get? c = some o → h'.get? c = some o) → Q (.ref (s.heap.objs.size + 4)) { s with heap := h' }) :
    wpAny (model prog w) A (call (.type "zip") [.ref l1, .ref l2]) Q E s := by
  refine callType_new F.called_zip (by decide) (F.typeCall_zip_2 _ _) (F.newCall_zip_2 _ _) (fun obj => F.args_object_init_3 obj _ _) F.entry_zip_new (meets_zipB t t2 l1 l2 xs ys) ⟨h1, h2, ?_⟩
  have n1 : (zB1 t s.heap l1).objs.size = s.heap.objs.size + 1 := Heap.size_push ..
  have n2 : (zB2 t t2 s.heap l1 l2).objs.size = s.heap.objs.size + 2 := by rw [Heap.size_push, n1]
  have n3 : (zB3 t t2 s.heap l1 l2).objs.size = s.heap.objs.size + 3 := by rw [Heap.size_push, n2]
  have n4 : (zB4 t t2 s.heap l1 l2).objs.size = s.heap.objs.size + 4 := by rw [Heap.size_push, n3]
  have p : ∀ {c o} {h : Heap} {o'}, h.get? c = some o → (h.push o').get? c = some o := fun e => Heap.get?_push_of_some _ e
  have q5 : (zB5 t t2 s.heap l1 l2).get? (zB4 t t2 s.heap l1 l2).objs.size = some _ := Heap.get?_push_size _ rfl
  have q4 : (zB5 t t2 s.heap l1 l2).get? (zB3 t t2 s.heap l1 l2).objs.size = some _ := p (Heap.get?_push_size _ rfl)
  have q3 : (zB5 t t2 s.heap l1 l2).get? (zB2 t t2 s.heap l1 l2).objs.size = some _ := p (p (Heap.get?_push_size _ rfl))
  have q2 : (zB5 t t2 s.heap l1 l2).get? (zB1 t s.heap l1).objs.size = some _ := p (p (p (Heap.get?_push_size _ rfl)))
  have q1 : (zB5 t t2 s.heap l1 l2).get? s.heap.objs.size = some _ := p (p (p (p (Heap.get?_push_size _ rfl))))
  show _ ∧ _
  rw [n2, n3, n4] at q5
  rw [n1, n2] at q3
  rw [n3] at q4
  rw [n1] at q2
  rw [n4]
  refine ⟨⟨_, q5, rfl⟩, h _ ⟨q5, q3, ⟨_, _, q4⟩, ?_, ?_⟩ fun c o x => p (p (p (p (p x))))⟩
  · cases t with
    | false => exact ⟨_, q1, rfl, rfl⟩
    | true => exact ⟨_, q1, rfl, rfl⟩
  · cases t2 with
    | false => exact ⟨_, q2, rfl, rfl⟩
    | true => exact ⟨_, q2, rfl, rfl⟩
end
def iZipB (t t2 : Bool) (K : PySem.W.Frag) (ta : TA) : L2.TI := fun σ H R => ta σ H fun vs H1 => ∃ a b xs ys, vs = [.ref a, .ref b] ∧ sqB t K H1 a xs ∧ sqB t2 K H1 b ys ∧ R (ItzB t t2 K a b) H1
theorem pi_zipB {t t2 : Bool} {X : Cy} {e e2 : Expr} {ta : TA} {p pos tpos : Pos} {elts : List Expr} {kk : Nat} (hg : Gl X "zip") (hm : X.mg "zip" = none) (ha : PA X [e, e2] ta)
    (hs : starEach [e, e2] X.env = (false, eval e X.env) :: starEach [e2] X.env := by rfl) (hpl : (backTo pos (starEach [e2] X.env)).any (·.1) = false := by rfl) :
    PI X (.Tuple elts kk tpos) (.Call (.Name "zip" p) [e, e2] [] pos) (iZipB t t2 X.K ta) := by
  refine ⟨fun pins s σ H R I h => ?_⟩
  refine PyProof.Rows.Call_ (ld_blt I hg hm PyProof.Rows.boot_zip (PyProof.Rows.callWith_type1 (thn (ha.run pos pins s σ H _ I h) fun us s1 ⟨vs, H1, I1, r1, q1⟩ => ?_) hs hpl))
  obtain ⟨a, b, xs, ys, rfl, hx, hy, q⟩ := q1
  cases r1 with
  | cons r rr =>
    cases rr with
    | cons r' rr =>
      cases rr
      cases r
      cases r'
      obtain ⟨its, rv, p1⟩ := hx.at_ I1
      obtain ⟨its2, rv2, p2⟩ := hy.at_ I1
      refine call_zipB p1 p2 fun h' st hk => wpAny_pyIter_zip st.zp ?_
      have I2 : Inv X pins σ H1 { s1 with heap := h' } := I1.kept (t' := s1.toks) hk
      refine ⟨s1.heap.objs.size + 4, [s1.heap.objs.size + 4, s1.heap.objs.size + 2, s1.heap.objs.size + 3, s1.heap.objs.size, s1.heap.objs.size + 1], _, _, H1, rfl, I2, turn_zipB (PySem.W.ktu_apart s1.heap.objs.size a b p1.lt p2.lt), st, fun c hcm => ?_, q⟩
      have hle : s1.heap.objs.size ≤ c := by
        have e' : c = s1.heap.objs.size + 4 ∨ c = s1.heap.objs.size + 2 ∨ c = s1.heap.objs.size + 3 ∨ c = s1.heap.objs.size ∨ c = s1.heap.objs.size + 1 := by simpa using hcm
        rcases e' with rfl | rfl | rfl | rfl | rfl
        all_goals first | exact Nat.le_add_right _ _ | exact Nat.le_refl _
      have := I1.fpOk hle (I1.hok.fresh hle)
      exact this
section
variable {X : Cy} {e f : Expr} {ρ : Rho} {μ : Mu} {pos p tpos : Pos}
theorem seqB_of {t : Bool} {K : PySem.W.Frag} {F H : Hp} {v : V} {d : D} {xs : List D} (ex : Ex F H) (r : Rep K F v d) (h : d = if t then .tup xs else .lst xs) : ∃ a vs, v = .ref a ∧ sqB t K H a vs ∧ Reps K F vs xs := by
  cases t with
  | false =>
    subst h
    cases r with
    | lst g rx => exact ⟨_, _, rfl, Evl.sq_of (ex _ _ g), rx⟩
  | true =>
    subst h
    cases r with
    | tup g rx => exact ⟨_, _, rfl, Evl.st_of (ex _ _ g), rx⟩
theorem wi_zipB (t t2 : Bool) {elts : List Expr} {kk : Nat} {ΦI : List D → Mu → Prop} (hm : X.mg "zip" = none) (h : wE X e ρ μ fun d1 μ1 => wE X f ρ μ1 fun d2 μ2 => ∃ xs ys, (d1 = if t then .tup xs else .lst xs) ∧ (d2 = if t2 then .tup ys else .lst ys) ∧ ΦI (zipD xs ys) μ2) (hg : Gl X "zip" := by rfl)
    (hs : starEach [e, f] X.env = (false, eval e X.env) :: starEach [f] X.env := by rfl) (hs2 : starEach [f] X.env = [(false, eval f X.env)] := by rfl) (hpl : (backTo pos (starEach [f] X.env)).any (·.1) = false := by rfl) :
    wI X (.Tuple elts kk tpos) (.Call (.Name "zip" p) [e, f] [] pos) ρ μ ΦI := fun F σ H hh sl R kt =>
  si_of (pi_zipB (t := t) (t2 := t2) hg hm (pa_cons pe_s (pa_cons pe_s pa_nil hs2) hs) hs hpl) (h F σ H hh sl _ fun v F1 H1 d μ1 q1 e1 hs1 r1 => q1 F1 σ H1 hs1 (sl.mono e1) _ fun v2 F2 H2 d2 μ2 ⟨xs, ys, h1, h2, q⟩ e2 hs2 r2 => by
    obtain ⟨a, vs, rfl, g, r⟩ := seqB_of hs2.ex (r1.mono e2) h1
    obtain ⟨b, ws, rfl, g2, r2'⟩ := seqB_of hs2.ex r2 h2
    refine ⟨a, b, vs, ws, rfl, g, g2, kt _ _ F2 μ2 H2 q (e1.trans e2) hs2 fun i F' μ' H' e' hs' => ?_⟩
    obtain ⟨a', vs', e3, g', r'⟩ := seqB_of hs'.ex ((r1.mono e2).mono e') h1
    obtain ⟨b', ws', e4, g2', r2''⟩ := seqB_of hs'.ex (r2.mono e') h2
    cases e3
    cases e4
    have l1 := r'.length
    have l2 := r2''.length
    rw [zipD_len]
    refine ⟨fun hi => ⟨vs', ws', vs'[i]'(by omega), ws'[i]'(by omega), g', g2', List.getElem?_eq_getElem _, List.getElem?_eq_getElem _⟩, fun hi => ⟨vs', ws', g', g2', by omega⟩, fun x H3 d hy hd => ?_⟩
    obtain ⟨T, y1, y2, rfl, hT, rfl, f1, f2⟩ := hy
    obtain ⟨x1, x2, hx1, hx2, rfl⟩ := zipD_get hd
    obtain ⟨z1, k1, k2⟩ := r'.get hx1
    obtain ⟨z2, k3, k4⟩ := r2''.get hx2
    cases (f1 _ g').symm.trans k1
    cases (f2 _ g2').symm.trans k3
    obtain ⟨q1, q2⟩ := hs'.laid (u := .tup [y1, y2]) hT
    exact ⟨_, q2, q1, .tup upd_same (.cons (k2.mono q2) (.cons (k4.mono q2) .nil))⟩)
end
end Oc

/-! Own layer: the order of nested data; a tuple's last item; a slice without the last one. -/
namespace Oc
open PySem PySem.Spec L2
open Evl (Ex)
def rDB (K : PySem.W.Frag) (f : PyData → PyData → Bool) : R2 := fun x y H Q => ∃ d e, Dp K H x d ∧ Dp K H y e ∧ PySem.W.alike d e = true ∧ d ≠ .none ∧ min d.depth e.depth ≤ 60 ∧ Q (.bl (f d e)) H
section
variable {X : Cy} {μ : Mu} {Φ : D → Mu → Prop} {d d1 d2 : D} {n m : Nat}
theorem op_gtD (hu : X.c.A.units + 64 < cLine) : OpR X (compareOp .Gt) (rDB X.K fun d e => PySem.W.dataLt e d) := by
  intro pins s σ H x y v u Q I rx ry h
  obtain ⟨d, e, hd, he, al, hn, hm, q⟩ := h
  obtain ⟨as, r1⟩ := Dp.reads I d x v hd rx
  obtain ⟨bs, r2⟩ := Dp.reads I e y u he ry
  exact PySem.W.gt_data r1 r2 al hn (by omega) ⟨.bl _, H, I, rfl, q⟩
theorem op_ltD (hu : X.c.A.units + 64 < cLine) : OpR X (compareOp .Lt) (rDB X.K fun d e => PySem.W.dataLt d e) := by
  intro pins s σ H x y v u Q I rx ry h
  obtain ⟨d, e, hd, he, al, hn, hm, q⟩ := h
  obtain ⟨as, r1⟩ := Dp.reads I d x v hd rx
  obtain ⟨bs, r2⟩ := Dp.reads I e y u he ry
  exact PySem.W.lt_data r1 r2 al hn (by omega) ⟨.bl _, H, I, rfl, q⟩
theorem ly_depth {d : D} {n : Nat} (h : Ly d n) : d.py.depth ≤ n := h.dp
theorem o_gtY (hu : X.c.A.units + 64 < cLine) (h1 : Ly d1 n) (h2 : Ly d2 m) (al : PySem.W.alike d1.py d2.py = true) (hn : d1.py ≠ .none) (k : Φ (.bl (PySem.W.dataLt d2.py d1.py)) μ) (hn1 : n ≤ 60 := by decide) : wOp X (compareOp .Gt) d1 d2 μ Φ :=
  wop_of (op_gtD hu) fun F H u v hs r1 r2 Q kt =>
  ⟨_, _, rep_py hs.ex r1 h1.st, rep_py hs.ex r2 h2.st, al, hn, by have := ly_depth h1; omega, kt.now k hs (.bl _)⟩
theorem o_ltY (hu : X.c.A.units + 64 < cLine) (h1 : Ly d1 n) (h2 : Ly d2 m) (al : PySem.W.alike d1.py d2.py = true) (hn : d1.py ≠ .none) (k : Φ (.bl (PySem.W.dataLt d1.py d2.py)) μ) (hn1 : n ≤ 60 := by decide) : wOp X (compareOp .Lt) d1 d2 μ Φ :=
  wop_of (op_ltD hu) fun F H u v hs r1 r2 Q kt =>
  ⟨_, _, rep_py hs.ex r1 h1.st, rep_py hs.ex r2 h2.st, al, hn, by have := ly_depth h1; omega, kt.now k hs (.bl _)⟩
theorem ix_tupN {ds l : List D} (hd : ds = l ++ [d]) (k : Φ d μ) : wIx X (.tup ds) (.int (-1)) μ Φ := wix_of ix_tup fun F H x y hs r1 r2 Q kt => by
  subst hd
  cases r2
  cases r1 with
  | tup g q =>
    have hsp : ∀ {xs : List V} {l : List D} {d : D}, Reps X.K F xs (l ++ [d]) → ∃ ys v, xs = ys ++ [v] ∧ Rep X.K F v d := fun {xs l d} r => by
      induction l generalizing xs with
      | nil =>
        cases r with
        | cons r rr => cases rr; exact ⟨[], _, rfl, r⟩
      | cons a l ih =>
        cases r with
        | cons r rr =>
          obtain ⟨ys, v, h1, h2⟩ := ih rr
          exact ⟨_ :: ys, v, by rw [h1]; rfl, h2⟩
    obtain ⟨ys, v, rfl, rv⟩ := hsp q
    exact ⟨_, _, _, v, rfl, rfl, Evl.st_of (hs.ex _ _ g), atI_last, kt.now k hs rv⟩
end
theorem cutD_init (l : List D) (x : D) : cutD (l ++ [x]) none (some (-1)) = l := by
  unfold cutD
  rw [HT.sIx_none, List.drop_zero, Nat.sub_zero]
  have e : HT.sIx (l ++ [x]).length (l ++ [x]).length (some (-1)) = l.length := by
    show (if (-1 : Int) < 0 then ((-1 : Int) + ((l ++ [x]).length : Int)).toNat else min (-1 : Int).toNat (l ++ [x]).length) = l.length
    rw [if_pos (by decide), List.length_append]
    show (-1 + ((l.length + 1 : Nat) : Int)).toNat = l.length
    omega
  rw [e, List.take_append_of_le_length (Nat.le_refl _), List.take_length]
/-! the order of numbers in rows -/
theorem alike_rowI : ∀ u v : List Nat, PySem.W.alikeAll (D.pys (u.map fun a : Nat => D.int a)) (D.pys (v.map fun a : Nat => D.int a)) = true
  | [], _ => by simp [D.pys, PySem.W.alikeAll]
  | _ :: _, [] => by simp [D.pys, PySem.W.alikeAll]
  | a :: u, b :: v => by
    rw [List.map_cons, List.map_cons]
    simp only [D.pys, D.py, PySem.W.alikeAll, PySem.W.alike, Bool.true_and]
    exact alike_rowI u v
abbrev rowTk (u : List Nat) : List PyData := D.pys (u.map fun a : Nat => D.int a)
theorem lt_head {a b : Nat} (u v : List Nat) (h : a < b) : PyProof.Rows.lexLt PyProof.Rows.itemOrd (PySem.W.keyToksAll (rowTk (a :: u))) (PySem.W.keyToksAll (rowTk (b :: v))) = true := by
  have e : PyData.eqv (.int a) (.int b) = false := by
    show ((a : Int) == (b : Int)) = false
    rw [beq_eq_false_iff_ne]
    omega
  show PyProof.Rows.lexLt PyProof.Rows.itemOrd (PySem.W.keyToksAll (D.pys (D.int a :: u.map fun a : Nat => D.int a))) (PySem.W.keyToksAll (D.pys (D.int b :: v.map fun a : Nat => D.int a))) = true
  simp only [D.pys, D.py]
  rw [PySem.W.dataLt_all_no rfl e, PySem.W.dataLt_int]
  exact decide_eq_true (by omega)
theorem lt_tail {a : Nat} (u v : List Nat) : PyProof.Rows.lexLt PyProof.Rows.itemOrd (PySem.W.keyToksAll (rowTk (a :: u))) (PySem.W.keyToksAll (rowTk (a :: v))) = PyProof.Rows.lexLt PyProof.Rows.itemOrd (PySem.W.keyToksAll (rowTk u)) (PySem.W.keyToksAll (rowTk v)) := by
  have e : PyData.eqv (.int a) (.int a) = true := by
    show ((a : Int) == (a : Int)) = true
    rw [beq_iff_eq]
  show PyProof.Rows.lexLt PyProof.Rows.itemOrd (PySem.W.keyToksAll (D.pys (D.int a :: u.map fun a : Nat => D.int a))) (PySem.W.keyToksAll (D.pys (D.int a :: v.map fun a : Nat => D.int a))) = _
  simp only [D.pys, D.py]
  exact PySem.W.dataLt_all_yes rfl e
abbrev lenRow (u : List Nat) : D := .tup [.int (u.length : Nat), .tup (u.map fun a : Nat => .int a)]
theorem alike_lenRow (u v : List Nat) : PySem.W.alike (lenRow u).py (lenRow v).py = true := by
  simp only [D.py, D.pys, PySem.W.alike, PySem.W.alikeAll, Bool.true_and, Bool.and_true]
  exact alike_rowI u v
theorem lt_lenRow_len {u v : List Nat} (h : u.length < v.length) : PySem.W.dataLt (lenRow u).py (lenRow v).py = true := by
  simp only [D.py, D.pys]
  rw [PySem.W.dataLt_tuple, PySem.W.dataLt_all_no rfl (by show ((u.length : Int) == (v.length : Int)) = false; rw [beq_eq_false_iff_ne]; omega), PySem.W.dataLt_int]
  exact decide_eq_true (by omega)
theorem lt_lenRow_same {u v : List Nat} (h : u.length = v.length) : PyProof.Rows.lexLt PyProof.Rows.itemOrd (PySem.W.keyToksAll (rowTk u)) (PySem.W.keyToksAll (rowTk v)) = true → PySem.W.dataLt (lenRow u).py (lenRow v).py = true := by
  intro hh
  simp only [D.py, D.pys]
  rw [PySem.W.dataLt_tuple, PySem.W.dataLt_all_yes rfl (by show ((u.length : Int) == (v.length : Int)) = true; rw [beq_iff_eq, h])]
  have hne : PyData.eqv (PyData.tuple (rowTk u)) (PyData.tuple (rowTk v)) = false := by
    cases e : PyData.eqv (PyData.tuple (rowTk u)) (PyData.tuple (rowTk v)) with
    | false => rfl
    | true =>
      have := ((PySem.W.toks_eqv (.tuple (rowTk u)) (.tuple (rowTk v)) (by simp only [PySem.W.alike]; exact alike_rowI u v)).1 e)
      simp only [PySem.W.keyToks] at this
      rw [this] at hh
      rw [PyProof.Rows.lex_irrefl] at hh
      cases hh
  rw [PySem.W.dataLt_all_no (by simp only [PySem.W.alike]; exact alike_rowI u v) hne, PySem.W.dataLt_tuple]
  exact hh
end Oc

/-! Own layer: a list inside a tuple; comprehensions over a cell. -/
namespace Oc
open PySem PySem.Spec L2
open Evl (Ex)
section
variable {X : Cy} {e : Expr} {ρ : Rho} {μ : Mu} {Φ : D → Mu → Prop} {d1 d2 : D}
/-- a list made here that is a pair's second thing stands still behind e -/
theorem w_fzT2 (h : wE X e ρ μ fun d μ1 => (∃ s p ds μ2, d = .tup [s, .ptr p] ∧ μ1 = (p, .lst ds) :: μ2 ∧ Φ (.tup [s, .lst ds]) μ2) ∨ Φ d μ1) : wE X e ρ μ Φ := fun F σ H hs sl Q kt =>
  h F σ H hs sl Q fun v F1 H1 d μ1 q x1 hs1 r => by
    rcases q with ⟨s, p, ds, μ2, rfl, rfl, q⟩ | q
    · obtain ⟨F2, x2, hs2, r2⟩ := hs1.freeze (i := 0) rfl
      refine kt _ F2 H1 _ _ q (x1.trans x2) hs2 ?_
      have r' := r.mono x2
      cases r' with
      | tup g rq =>
        cases rq with
        | cons ra rq =>
          cases rq with
          | cons rb rq =>
            cases rq
            cases rb
            exact .tup g (.cons ra (.cons r2 .nil))
    · exact kt _ F1 H1 _ _ q x1 hs1 r
theorem o_neTP {s : Str} {q : Addr} {ds : List D} {n m : Nat} (i : Nat) (hm : μ[i]? = some (q, MO.lst ds)) (hu : X.c.A.units + 64 < cLine) (h1 : Lys ds n) (h2 : Ly d2 m) (k : Φ (.bl (!PyData.eqv (D.tup [.str s, .lst ds]).py d2.py)) μ) (hn : n ≤ 60 := by decide) (hk : m ≤ 60 := by decide) (hz : PyData.strOk s = true := by rfl) :
    wOp X (compareOp .NotEq) (.tup [.str s, .ptr q]) d2 μ Φ := wop_of (op_neD hu) fun F H u v hs r1 r2 Q kt => by
  obtain ⟨xs, gx, rx⟩ := hs.lst hm
  have e : (D.lst ds).py = .list (D.pys ds) := by simp only [D.py]
  have hp : Dp X.K H (.ref q) (D.lst ds).py := by rw [e]; exact .lst (Evl.sq_of gx) (reps_py hs.ex rx h1.st)
  have e2 : (D.tup [.str s, .lst ds]).py = .tuple [.str s, (D.lst ds).py] := by simp only [D.py, D.pys]
  have hl : Ly (D.tup [.str s, .lst ds]) (n + 2) := ⟨by simp only [D.still, D.stills, h1.st]; rfl, by simp only [D.py, D.pys, PyData.canLay0, PyData.canLayAll0, h1.lay, hz]; rfl, by have := h1.dp; simp only [D.py, D.pys, PyData.depth, PyData.depthAll]; omega⟩
  cases r1 with
  | tup g rq =>
    cases rq with
    | cons ra rq =>
      cases rq with
      | cons rb rq =>
        cases rq
        cases ra
        cases rb
        refine ⟨_, _, ?_, rep_py hs.ex r2 h2.st, hl.shaped (by omega), h2.shaped (by omega), kt.now k hs (.bl _)⟩
        rw [e2]
        exact .tup (Evl.st_of (hs.ex _ _ g)) (.cons (.str _) (.cons hp .nil))
end
section
variable {X : Cy} {elt tg iter : Expr} {ifs : List Expr} {scope : Scope} {t : Tg} {vs : List Nat} {ρ : Rho} {μ μ1 : Mu} {Φ : D → Mu → Prop} {its : List D} {P : Mu → Prop} {pos : Pos} {e : Expr}
/-- the cell of the list that is gone through -/
theorem wi_ptr' {tg : Expr} {ΦI : List D → (Mu → Prop) → Mu → Prop} (h : wE X e ρ μ fun d μ1 => ∃ q, d = .ptr q ∧ ∃ (m : Nat) (ds : List D), μ1[m]? = some (q, MO.lst ds) ∧ ΦI ds (fun μ' => ∃ m : Nat, μ'[m]? = some (q, MO.lst ds)) μ1) : wIP X tg e ρ μ ΦI :=
  wi_ptr (w_mono h fun d μ1 ⟨q, hd, m, ds, hm, k⟩ => ⟨q, ds, hd, ⟨m, hm⟩, k⟩)
abbrev LcQP (X : Cy) (elt : Expr) (ifs : List Expr) (scope : Scope) (t : Tg) (vs : List Nat) (ρ : Rho) (Φ : D → Mu → Prop) (its : List D) (P : Mu → Prop) (μ1 : Mu) : Prop :=
  its.length ≤ 1000000 ∧ ∃ Iv : Nat → List D → Mu → Prop, Iv 0 [] μ1 ∧ (∀ p i acc μ2, Iv i acc μ2 → P ((p, .lst acc) :: μ2)) ∧
    (∀ p i x acc μ2, its[i]? = some x → Iv i acc μ2 → ∃ ρ', t.put x (wipeR ρ vs) = some ρ' ∧ ∀ s H C cl fp, wTs (blkE X scope s H C cl fp) ifs ρ' ((p, .lst acc) :: μ2) fun k μ4 =>
      (k = true → ∀ s H C cl fp, wE (blkE X scope s H C cl fp) elt ρ' μ4 fun d μ5 => ∃ μ6, μ5 = (p, .lst acc) :: μ6 ∧ Iv (i + 1) (acc ++ [d]) μ6) ∧ (k = false → ∃ μ6, μ4 = (p, .lst acc) :: μ6 ∧ Iv (i + 1) acc μ6)) ∧
    (∀ p acc μ2, Iv its.length acc μ2 → Φ (.ptr p) ((p, .lst acc) :: μ2))
def LcWP (X : Cy) (elt tg iter : Expr) (ifs : List Expr) (scope : Scope) (t : Tg) (vs : List Nat) (ρ : Rho) (μ : Mu) (Φ : D → Mu → Prop) : Prop :=
  wIP X tg iter ρ μ fun its P μ1 => LcQP X elt ifs scope t vs ρ Φ its P μ1
theorem lcWP_of (h : wIP X tg iter ρ μ fun its P μ1 => LcQP X elt ifs scope t vs ρ Φ its P μ1) : LcWP X elt tg iter ifs scope t vs ρ μ Φ := h
theorem lc_tP (hv : ∀ j ∈ t.slots, j ∈ vs) (h : LcWP X elt tg iter ifs scope t vs ρ μ Φ) {F : Hp} {σ : L2.St} {H : Hp} (hs : Hs X.K F μ H) (sl : Sl X.K F ρ σ) {Q : VK} (kt : Kont X.K F Φ Q) :
    tLc (sI X tg iter) (t.g X.K) (sTsF X scope ifs) (sEF X scope elt) vs σ H Q := by
  refine h F σ H hs sl _ fun J its P F1 μ1 H1 ⟨hz, Iv, h0, hP, ht, hd⟩ e1 hs1 wk Dl hD => ?_
  refine ⟨fun i m H' => m = its.length - i ∧ i ≤ its.length ∧ ∃ F' acc μ', Ex F1 F' ∧ Hs X.K F' ((Dl, .lst acc) :: μ') H' ∧ acc.length ≤ i ∧ Iv i acc μ', ⟨its.length, by simp, Nat.zero_le _, F1, [], μ1, Ex.refl _, hs1.cell hD (.lst .nil), Nat.le_refl _, h0⟩, ?_⟩
  rintro i m H' ⟨rfl, hi, F', acc, μ', e2, hs2, hl, iv⟩
  obtain ⟨w1, w2, w3⟩ := wk i F' _ H' e2 (hP Dl i acc μ' iv) hs2
  by_cases hlt : i < its.length
  · refine .inr ⟨w1 hlt, fun H3 => ∃ F3 acc3 μ3, Ex F1 F3 ∧ Hs X.K F3 ((Dl, .lst acc3) :: μ3) H3 ∧ acc3.length ≤ i + 1 ∧ Iv (i + 1) acc3 μ3, fun H3 q => ⟨its.length - (i + 1), by omega, rfl, hlt, q⟩, fun x H3 hy => ?_⟩
    have hx : its[i]? = some its[i] := List.getElem?_eq_getElem hlt
    obtain ⟨F3, e3, hs3, r3⟩ := w3 x H3 _ hy hx
    obtain ⟨ρ', hp, ht⟩ := ht Dl i _ acc μ' hx iv
    refine Tg.run hs3 ((sl.mono (e1.trans (e2.trans e3))).wipeL vs) r3 hv hp fun σ' hw sl' => ⟨hw, fun s' H' C cl fp => ?_⟩
    refine (ht s' H' C cl fp).go hs3 sl' fun k F4 H4 μ4 q4 e4 hs4 => ?_
    cases k with
    | true =>
      rw [if_pos rfl]
      refine fun s' H' C cl fp => q4.1 rfl s' H' C cl fp F4 σ' H4 hs4 (sl'.mono e4) _ fun v F5 H5 d μ5 ⟨μ6, h6, iv6⟩ e5 hs5 r5 => ?_
      subst h6
      obtain ⟨xs, hx5, rx5⟩ := hs5.lst (i := 0) rfl
      refine ⟨xs, hx5, Nat.lt_of_le_of_lt ?_ (show 1000000 < sizeLine by decide), F5, acc ++ [d], μ6, e2.trans (e3.trans (e4.trans e5)), hs5.write (i := 0) rfl (.lst (rx5.append (.one r5))), ?_, iv6⟩
      · rw [rx5.length]
        omega
      · rw [List.length_append]
        exact Nat.succ_le_succ hl
    | false =>
      rw [if_neg Bool.false_ne_true]
      obtain ⟨μ6, h6, iv6⟩ := q4.2 rfl
      subst h6
      exact ⟨F4, acc, μ6, e2.trans (e3.trans e4), hs4, Nat.le_succ_of_le hl, iv6⟩
  · have he : i = its.length := by omega
    subst he
    exact .inl ⟨w2 rfl, kt _ F' H' _ _ (hd Dl acc μ' iv) (e1.trans e2) hs2 (.ptr Dl)⟩
theorem w_lcMP {scope : Scope} {own : List (Str × Nat)} (t : Tg) (hv : ∀ j ∈ t.slots, j ∈ own.map (·.2)) (hc : X.calm = true) (hN : X.N.Nodup) (ok : BlkOk X.N X.env.scope scope own)
    (hg : ∀ s H C cl fp, PG (blkE X scope s H C cl fp) tg (t.g X.K)) (h : LcWP X elt tg iter ifs scope t (own.map (·.2)) ρ μ Φ) (hs : ∀ x, foldedSetIterable iter X.env x = pure x := by intro _; rfl) :
    wE X (.ListComp elt [⟨tg, iter, ifs, 0⟩] scope pos) ρ μ Φ := fun F σ H hh sl Q kt =>
  se_of (pe_lc hc hN pi_s ok hg (fun s H C cl fp => ⟨fun pins s' σ H Q I q => q s _ C cl fp pins s' I⟩) (fun s H C cl fp => ⟨fun pins s' σ H Q I q => q s _ C cl fp pins s' I⟩) hs) (lc_tP hv h hh sl kt)
theorem lcq_mapP {α : Type} (l : List α) (f : α → D) (g : α → D) (he : its = l.map f) (hl : l.length ≤ 1000000)
    (ht : ∀ (p : Addr) (i : Nat) (x : α), l[i]? = some x → ∃ ρ', t.put (f x) (wipeR ρ vs) = some ρ' ∧ ∀ s H C cl fp, wE (blkE X scope s H C cl fp) elt ρ' ((p, .lst ((l.take i).map g)) :: μ1) fun d μ5 => d = g x ∧ μ5 = (p, .lst ((l.take i).map g)) :: μ1)
    (hd : ∀ p, Φ (.ptr p) ((p, .lst (l.map g)) :: μ1)) (hP : ∀ p (acc : List D), P ((p, .lst acc) :: μ1) := by intro _ _; first | exact ⟨1, rfl⟩ | exact ⟨2, rfl⟩) : LcQP X elt [] scope t vs ρ Φ its P μ1 := by
  subst he
  refine ⟨by rw [List.length_map]; exact hl, fun i acc μ2 => acc = (l.take i).map g ∧ μ2 = μ1, ⟨rfl, rfl⟩, ?_, ?_, ?_⟩
  · rintro p i acc μ2 ⟨_, rfl⟩
    exact hP _ _
  · rintro p i x acc μ2 hx ⟨rfl, rfl⟩
    obtain ⟨y, hy, rfl⟩ := map_get' hx
    obtain ⟨ρ', h1, h2⟩ := ht p i y hy
    refine ⟨ρ', h1, fun _ _ _ _ _ => ⟨fun _ s H C cl fp => w_mono (h2 s H C cl fp) ?_, fun hb => (nomatch hb)⟩⟩
    rintro d μ5 ⟨rfl, rfl⟩
    exact ⟨_, rfl, by rw [filter_next hy, List.map_append]; rfl, rfl⟩
  · rintro p acc μ2 ⟨rfl, rfl⟩
    rw [List.length_map, List.take_of_length_le (Nat.le_refl _)]
    exact hd p
end
end Oc

/-! Own layer: a op b op' c. -/
namespace Oc
open PySem PySem.Spec L2
open Evl (Ex)
section
variable {X : Cy} {a b c : Expr} {ρ : Rho} {μ : Mu} {Φ : D → Mu → Prop} {pos : Pos}
theorem w_chain {op op' : CmpOp} (h : wE X a ρ μ fun d1 μ1 => wE X b ρ μ1 fun d2 μ2 => wOp X (compareOp op) d1 d2 μ2 fun d3 μ3 => ∃ k, d3 = .bl k ∧ (k = true → wE X c ρ μ3 fun d4 μ4 => wOp X (compareOp op') d2 d4 μ4 Φ) ∧ (k = false → Φ (.bl false) μ3))
    (hm : lastMarks [op, op'] [b, c] = false := by with_unfolding_all rfl) : wE X (.Compare a [op, op'] [b, c] pos) ρ μ Φ := fun F σ H hs sl Q kt =>
  se_of (pe_chain op_s op_s pe_s pe_s pe_s hm) (h F σ H hs sl _ fun x F1 H1 d1 μ1 h1 e1 hs1 r1 => h1 F1 σ H1 hs1 (sl.mono e1) _ fun y F2 H2 d2 μ2 h2 e2 hs2 r2 =>
    h2 F2 H2 x y hs2 (r1.mono e2) r2 _ fun z F3 H3 d3 μ3 h3 e3 hs3 r3 => by
      obtain ⟨k, rfl, ht, hf⟩ := h3
      cases r3
      refine ⟨k, rfl, ?_⟩
      cases k with
      | false =>
        rw [if_neg Bool.false_ne_true]
        exact kt _ F3 H3 _ μ3 (hf rfl) (e1.trans (e2.trans e3)) hs3 (.bl _)
      | true =>
        rw [if_pos rfl]
        exact ht rfl F3 σ H3 hs3 (sl.mono (e1.trans (e2.trans e3))) _ fun w F4 H4 d4 μ4 h4 e4 hs4 r4 => h4 F4 H4 y w hs4 (r2.mono (e3.trans e4)) r4 Q (kt.mono (e1.trans (e2.trans (e3.trans e4)))))
end
end Oc

/-! Own layer: a list's last item; pairs among pairs. -/
namespace Oc
open PySem PySem.Spec L2
open Evl (Ex)
section
variable {X : Cy} {μ : Mu} {Φ : D → Mu → Prop} {d : D}
theorem ix_lstN {ds l : List D} (hd : ds = l ++ [d]) (k : Φ d μ) : wIx X (.lst ds) (.int (-1)) μ Φ := wix_of ix_list fun F H x y hs r1 r2 Q kt => by
  subst hd
  cases r2
  cases r1 with
  | lst g q =>
    have hsp : ∀ {xs : List V} {l : List D} {d : D}, Reps X.K F xs (l ++ [d]) → ∃ ys v, xs = ys ++ [v] ∧ Rep X.K F v d := fun {xs l d} r => by
      induction l generalizing xs with
      | nil =>
        cases r with
        | cons r rr => cases rr; exact ⟨[], _, rfl, r⟩
      | cons a l ih =>
        cases r with
        | cons r rr =>
          obtain ⟨ys, v, h1, h2⟩ := ih rr
          exact ⟨_ :: ys, v, by rw [h1]; rfl, h2⟩
    obtain ⟨ys, v, rfl, rv⟩ := hsp q
    exact ⟨_, _, _, v, rfl, rfl, Evl.sq_of (hs.ex _ _ g), atI_last, kt.now k hs rv⟩
end
theorem eqv_pair (p q : Nat × Nat) : PyData.eqv (natP p).py (natP q).py = decide (p = q) := by
  show PyData.eqv (D.tup [.int p.1, .int p.2]).py (D.tup [.int q.1, .int q.2]).py = _
  have e1 := eqv_int (p.1 : Int) (q.1 : Int)
  have e2 := eqv_int (p.2 : Int) (q.2 : Int)
  simp only [D.py, D.pys, PyData.eqv, PyData.eqvAll] at e1 e2 ⊢
  rw [e1, e2, Bool.and_true, Bool.eq_iff_iff, Bool.and_eq_true, decide_eq_true_iff, decide_eq_true_iff, decide_eq_true_iff]
  constructor
  · rintro ⟨h1, h2⟩; exact Prod.ext (by omega) (by omega)
  · rintro rfl; exact ⟨rfl, rfl⟩
theorem pairs_any (L : List (Nat × Nat)) (r : Nat × Nat) : ((L.map natP).any fun z => PyData.eqv z.py (natP r).py) = decide (r ∈ L) := by
  rw [List.any_map, Bool.eq_iff_iff, List.any_eq_true, decide_eq_true_iff]
  constructor
  · rintro ⟨a, ha, h⟩
    have h : PyData.eqv (natP a).py (natP r).py = true := h
    rw [eqv_pair, decide_eq_true_iff] at h
    subst h
    exact ha
  · exact fun h => ⟨r, h, by show PyData.eqv (natP r).py (natP r).py = true; rw [eqv_pair]; simp⟩
end Oc

/-! Own layer: sorted(set(l)) of a list of ints. -/
namespace Oc
open PySem PySem.Spec L2 PyProof.Rows
open Evl (Ex)
section
variable {P : Program} {w : World} {A : Around} {E : Value → Shared → Prop} {s : Shared}
abbrev bareSet (w : World) : Obj := { cls := .type "set", dict := none, data := .set #[] 0 (.fresh 0 0 (!w.params.followText "set-order")) }
set_option maxHeartbeats 6400000 in
/-- set(l), l a list of ints: the table is known -/
theorem set_of_ints {l : Addr} {items : Array Value} {ns : List Int} {Q : Value → Shared → Prop} (hh : A.handled = none) (hl : s.heap.IsList l items) (hit : IntsAre items.toList ns) (hb : ns.length + 1 < scanBound)
    (h : ∀ (h' : Heap) (tk c : Nat), SetR w h' s.heap.objs.size (fun j => decide (j ∈ ns)) c → c ≤ ns.length → (∀ b o, s.heap.get? b = some o → h'.get? b = some o) → Q (.ref s.heap.objs.size) { s with heap := h', toks := tk }) :
    wpAny (model P w) A (call (.type "set") [.ref l]) Q E s := by
  have hlen : items.size = ns.length := (Array.length_toList (xs := items)).symm.trans hit.length
  obtain ⟨c, tl, hmro⟩ := F.called_set.mro
  have hmade := F.called_set.made
  have hsub := F.called_set.sub
  have h1 := F.called_set.notType
  have h2 := F.called_set.canCreate
  have hct := F.typeCall_set_1 (.ref l)
  have hS : (s.heap.push (bareSet w)).get? s.heap.objs.size = some (bareSet w) := Heap.get?_push_size _ rfl
  refine wpAny_call (codeAny_of_tree ?_)
  show wpAny _ _ (callAny (.type "set") _) _ _ _
  refine wpAny_pure ⟨Code.quiet_builtin _ (by decide +kernel), codeAny_builtin F.entry_type_call ?_⟩
  rw [Around.under_plain (weight_type_call_type "set" [.ref l] []) rfl]
  repeat (any_goals (first | assumption | wp_step))
  refine codeAny_mono (code_set_led1 (.ref l) (E := E) (Q₁ := fun v s₁ => v = .ref s.heap.objs.size ∧ s₁ = { s with heap := s.heap.push (bareSet w) }) ⟨rfl, rfl⟩) fun r s₁ hr => ?_
  cases r with
  | error e => exact hr
  | ok fl =>
    cases fl with
    | ret v =>
      obtain ⟨rfl, rfl⟩ := hr
      have hT : Shared.TypeIs { s with heap := s.heap.push (bareSet w) } (.ref s.heap.objs.size) "set" := ⟨_, hS, rfl⟩
      have hli := F.called_set.init.lookup
      have hbi := F.called_set.init.bind (.ref s.heap.objs.size)
      repeat (any_goals (first | assumption | wp_step))
      refine codeAny_mono (codeAny_call_builtin (R := wants (fun r s₂ => r = .none ∧ ∃ h' tk c, s₂ = { s with heap := h', toks := tk } ∧ SetR w h' s.heap.objs.size (fun j => decide (j ∈ ns)) c ∧ c ≤ ns.length ∧
          (∀ b o, s.heap.get? b = some o → h'.get? b = some o)) E) F.called_set.init.plain F.entry_set_init (check_set_init_1 hT ?_)) fun r₂ s₂ hr₂ => ?_
      · have hl1 : (s.heap.push (bareSet w)).IsList l items := hl.push _
        obtain ⟨⟨ocls, odict, odata, oslots⟩, hol, hcl, nl, hdl⟩ := hl
        simp only at hcl hdl
        subst hcl
        subst hdl
        have hol' := Heap.get?_push_of_some (bareSet w) hol
        have hsls := F.sub_list_set
        have hslf := F.sub_list_frozenset
        have hne : (Value.type "list" == Value.type "dict") = false := by decide
        unfold Builtin.«set.__init__» noKeywords Builtin.Frozenset.updateFrom
        generalize hPI : pyIter = PI
        wp_walk
        subst hPI
        refine wpAny_pyIter_list hl1 ?_
        refine wpAny_bind (wpAny_runValue ?_)
        have hlS : l < s.heap.objs.size := Heap.lt_size hol
        have hh3 : A.in1.in1.in1.handled = none := by simp [hh]
        have hz : (s.heap.push (bareSet w)).objs.size = s.heap.objs.size + 1 := Heap.size_push ..
        have hneI : l ≠ (s.heap.push (bareSet w)).objs.size := by rw [hz]; exact Nat.ne_of_lt (Nat.lt_succ_of_lt hlS)
        have hSf : s.heap.objs.size ∉ [(s.heap.push (bareSet w)).objs.size, l] := by
          rw [hz]
          simp only [List.mem_cons, List.not_mem_nil, or_false, not_or]
          exact ⟨Nat.ne_of_lt (Nat.lt_succ_self _), Nat.ne_of_gt hlS⟩
        have hval : ∀ (i : Nat) (v : Value), items[i]? = some v → ∃ k t, ns[i]? = some k ∧ v = .int k t := fun i v hv => by
          have hi : i < ns.length := by rw [← hlen]; exact (Array.getElem?_eq_some_iff.mp hv).1
          obtain ⟨t, e⟩ := IntsAre.int_at hit i v (by rw [Array.getElem?_toList]; exact hv)
          refine ⟨ns[i], t, List.getElem?_eq_getElem hi, ?_⟩
          rw [e, List.getD_eq_getElem?_getD, List.getElem?_eq_getElem hi] <;> rfl
        refine set_update_ints ((Walks.list hh3 _ l hneI items).toS) s.heap.objs.size hSf ns hlen hb hval (items.size - 0) 0 _ (by omega) (Nat.zero_le _)
          ⟨⟨_, Heap.get?_push_size _ rfl, rfl, rfl⟩, (hl1.push _)⟩ ⟨0, Nat.le_refl 0, setR_new_at (Heap.get?_push_of_some _ hS)⟩ ?_
        intro s' c' hm hc' hS'
        obtain ⟨h', g2, d', tk', os'⟩ := s'
        have eg : g2 = s.gens := hm.gens
        have ed : d' = s.drawn := hm.drawn
        have eo : os' = s.os := hm.os
        subst eg
        subst ed
        subst eo
        show wpAny _ _ _ _ _ _
        refine wpAny_pure ?_
        show wpAny _ _ (ret Value.none) _ _ _
        rw [hlen] at hc'
        refine wpAny_pure ⟨rfl, h', tk', c', rfl, hS', hc', fun b o e => ?_⟩
        have hb0 : b < s.heap.objs.size := Heap.lt_size e
        refine hm.heap b o ?_ (Heap.get?_push_of_some _ (Heap.get?_push_of_some _ e))
        simp only [List.mem_cons, List.not_mem_nil, or_false, not_or]
        exact ⟨Nat.ne_of_lt hb0, by rw [hz]; exact Nat.ne_of_lt (Nat.lt_succ_of_lt hb0)⟩
      · cases r₂ with
        | error e => exact hr₂
        | ok fl₂ =>
          cases fl₂ with
          | ret r =>
            obtain ⟨rfl, h', tk, c', rfl, hS', hc', hk'⟩ := hr₂
            repeat (any_goals (first | assumption | wp_step))
            exact h _ _ _ hS' hc' hk'
          | _ => exact hr₂.elim
    | _ => exact hr.elim
end
section
variable {X : Cy}
def rSetL (K : PySem.W.Frag) (w : World) : List V → Hp → VK → Prop := fun xs H Q => ∃ (l : Addr) (ns : List Int), xs = [V.ref l] ∧ SqL K H l (ns.map V.int) ∧ ns.length < 64 ∧
  ∀ p c, H p = none → c ≤ ns.length → Q (.ref p) (upd H p (SetO w p (fun j => decide (j ∈ ns)) c))
theorem cr_setL (hc : X.calm = true) : CallR X (.type "set") (rSetL X.K X.w) := by
  intro pins s σ H xs us Q I r h
  obtain ⟨l, ns, rfl, hl, hz, q⟩ := h
  rw [Vals.ref1 r]
  obtain ⟨its, rv, pl, hz2⟩ := I.list hl
  have hn : H s.heap.objs.size = none := I.hok.fresh (Nat.le_refl _)
  refine set_of_ints (I.ok.hd hc) pl.isList (by simpa using ints_of_vals rv) (by unfold scanBound; omega) fun h' tk c R hc2 k => ?_
  exact ⟨.ref s.heap.objs.size, upd H s.heap.objs.size (SetO X.w s.heap.objs.size (fun j => decide (j ∈ ns)) c), I.laid (t' := tk) k (Nat.le_refl _) (setO_new R), rfl, q _ c hn hc2⟩
end
end Oc

/-! Own layer: sorted(t) of a tuple of ints, t[::-1], sorted(set(l)). -/
namespace Oc
open PySem PySem.Spec L2 PyProof.Rows
open Evl (Ex)
section
variable {P : Program} {w : World} {A : Around} {E : Value → Shared → Prop} {s : Shared}
theorem sorted_of_tup {t : Addr} {vs : List Value} {ns : List Int} {Q : Value → Shared → Prop} (ht : IsTup s.heap t vs.toArray) (hI : IntsAre vs ns) (h64 : vs.length < 64)
    (hQ : ∀ (h1 h2 : Heap) (out : Array Value) (c : Nat) (ns' : List Int), (∀ b o, s.heap.get? b = some o → h1.get? b = some o) → (∀ b o, h1.get? b = some o → h2.get? b = some o) → h2.get? h1.objs.size = some (seqObj "list" out c) → IntsAre out.toList ns' → ns'.Perm ns → ns'.Pairwise (· ≤ ·) → Q (.ref h1.objs.size) { s with heap := h2 }) :
    wpAny (model P w) A (call (.builtin "sorted") [.ref t]) Q E s := by
  obtain ⟨o, ho, hc, n, hd⟩ := ht
  refine Calls.call_function_entry kind_sorted plain_sorted entry_sorted (args_sorted1 _) ?_
  unfold Builtin.«sorted»
  refine wpAny_bind (m := checkCount "sorted" 1 1 _) (wpAny_pure ?_)
  refine wpAny_bind (wpAny_collect_seq t (T := "tuple") (.inr rfl) ho hc hd (fun h' k => ?_) (by rw [List.size_toArray, sizeLine_eq]; omega))
  have hoL : (h'.push (seqObj "list" vs.toArray 0)).get? h'.objs.size = some (seqObj "list" vs.toArray 0) := Heap.get?_push_size _ rfl
  refine wpAny_bind (wpAny_newList ?_ (by rw [sizeLine_eq]; show vs.length ≤ _; omega))
  refine wpAny_bind (wpAny_holding (wpAny_call_entry slot_list_sort ⟨_, hoL, rfl⟩ entry_list_sort (list_sort_tree hoL hI h64 fun out ns' a1 a2 a3 => ⟨_, rfl, ?_⟩) (args_list_sort _)))
  obtain ⟨c, hc⟩ := sortedHeap_at (vs := vs) (out := out) hoL
  refine wpAny_pure ⟨_, rfl, hQ h' _ out c ns' k (fun b u q => ?_) hc a1 a2 a3⟩
  have hlt := Heap.lt_size q
  show (sortedHeap (h'.push (seqObj "list" vs.toArray 0)) h'.objs.size vs out).get? b = some u
  rw [sortedHeap_old (Nat.ne_of_lt hlt) (by rw [size_push']; exact Nat.lt_succ_of_lt hlt)]
  exact Heap.get?_push_of_some _ q
theorem applied_rev {sl : Addr} {vl vu vs : Value} {n : Nat} {Q : Int × Int × Nat → Shared → Prop} (hs : s.heap.IsSliceOf sl vl vu vs) (pl : IsPart vl none) (pu : IsPart vu none) (ps : IsPart vs (some (-1)))
    (h : Q ((n : Int) - 1, -1, n) s) : wpAny (model P w) A (Builtin.Slice.sliceApplied (.ref sl) (pure (n : Int))) Q E s := by
  obtain ⟨os, hos, hcs, hds⟩ := id hs
  unfold Builtin.Slice.sliceApplied Builtin.Slice.sliceFields
  refine wpAny_bind (wpAny_bind (wpAny_field hos hds (x := vl) rfl (wpAny_bind (wpAny_field hos hds (x := vu) rfl (wpAny_bind (wpAny_field hos hds (x := vs) rfl (wpAny_pure ?_)))))))
  refine wpAny_bind (HT.slicePart_ ps ?_)
  show wpAny _ _ (if ((-1 : Int) == 0) = true then _ else _) _ _ s
  rw [if_neg (by decide)]
  refine wpAny_bind (HT.slicePart_ pl (wpAny_bind (HT.slicePart_ pu (wpAny_bind (wpAny_pure ?_)))))
  have e1 : Builtin.Slice.sliceAdjust none none (-1) (n : Int) = ((n : Int) - 1, -1) := by
    unfold Builtin.Slice.sliceAdjust
    have h1 : (-1 : Int) < 0 := by decide
    simp only [h1, if_true]
  have e2 : Builtin.Slice.slicePlaces ((n : Int) - 1) (-1) (-1) = n := by
    unfold Builtin.Slice.slicePlaces
    have h1 : ¬ ((-1 : Int) > 0) := by decide
    simp only [h1, if_false]
    by_cases hn : n = 0
    · subst hn; rfl
    · rw [if_pos (by omega), show (-(-1) : Int) = 1 by decide, Int.ediv_one]; omega
  show wpAny _ _ (match Builtin.Slice.sliceAdjust none none (-1) (n : Int) with | (lo, hi) => pure (lo, (-1 : Int), Builtin.Slice.slicePlaces lo hi (-1))) _ _ s
  rw [e1]
  show wpAny _ _ (pure ((n : Int) - 1, (-1 : Int), Builtin.Slice.slicePlaces ((n : Int) - 1) (-1) (-1))) _ _ s
  rw [e2]
  exact wpAny_pure h
theorem pick_rev (xs : Array Value) : ((List.range xs.size).filterMap fun (m : Nat) => xs[(((xs.size : Int) - 1) + (m : Int) * -1).toNat]?).toArray = xs.toList.reverse.toArray := by
  rw [← PySem.W.krv_pick xs]
  unfold slicePick
  rw [PySem.W.krv_bounds]
  show _ = ((sliceRange ((xs.size : Int) - 1) (-1) (-1)).filterMap (xs[·]?)).toArray
  rw [PySem.W.krv_sliceRange, List.filterMap_map]
  congr 1
  have cg : ∀ (f g : Nat → Option Value) (l : List Nat), (∀ k ∈ l, f k = g k) → l.filterMap f = l.filterMap g := fun f g l => by
    induction l with
    | nil => intro _; rfl
    | cons a l ih =>
      intro h
      rw [List.filterMap_cons, List.filterMap_cons, h a List.mem_cons_self, ih fun k hk => h k (List.mem_cons_of_mem _ hk)]
  refine cg _ _ _ fun k hk => ?_
  have hk := List.mem_range.mp hk
  show xs[(((xs.size : Int) - 1) + (k : Int) * -1).toNat]? = xs[xs.size - 1 - k]?
  rw [show (((xs.size : Int) - 1) + (k : Int) * -1).toNat = xs.size - 1 - k by omega]
theorem item_tup_rev {t sl : Addr} {items : Array Value} {vl vu vs : Value} {Q : Value → Shared → Prop} (ht : IsTup s.heap t items) (hs : s.heap.IsSliceOf sl vl vu vs) (pl : IsPart vl none) (pu : IsPart vu none) (ps : IsPart vs (some (-1)))
    (h : Q (.ref s.heap.objs.size) { s with heap := s.heap.push { cls := .type "tuple", data := .seq items.toList.reverse.toArray } }) (hsz : items.size ≤ sizeLine) :
    wpAny (model P w) A (getItem (.ref t) (.ref sl)) Q E s := by
  have hok : sizeOk (.seq items.toList.reverse.toArray) := by
    show items.toList.reverse.toArray.size ≤ sizeLine
    rw [List.size_toArray, List.length_reverse, Array.length_toList]
    exact hsz
  obtain ⟨os, hos, hcs, hds⟩ := id hs
  have hTs : s.TypeIs (.ref sl) "slice" := ⟨os, hos, hcs⟩
  unfold getItem
  try with_reducible refine wpAny_holding ?_
  first | refine wpAny_bind (wpAny_pure ?_) | skip
  refine wpAny_bind (wpAny_sequenceKey ht.typeIs (by decide) ?_)
  refine wpAny_bind (wpAny_callSpecial?_slot (name := Str.ofString "__getitem__") ht.typeIs PyProof.Rows.slot_tuple_getitem
    (wpAny_call_entry PyProof.Rows.slot_tuple_getitem ht.typeIs entry_tuple_getitem ?_ (args_tuple_getitem _ _)))
  show wpAny _ _ (Builtin.Tuple.tupleItemsOf (.ref t) >>= _) _ _ s
  refine wpAny_bind (tupleItemsOf_ ht ?_)
  refine wpAny_bind (wpAny_typeOf hTs ?_)
  rw [if_pos (by decide)]
  refine wpAny_bind (applied_rev hs pl pu ps ?_)
  have hno : ¬ (((items.size : Int) - 1 == 0 && (-1 : Int) == 1 && items.size == items.size) = true) := by
    rw [show ((-1 : Int) == 1) = false by decide, Bool.and_false, Bool.false_and]
    exact Bool.false_ne_true
  show wpAny _ _ (if ((items.size : Int) - 1 == 0 && (-1 : Int) == 1 && items.size == items.size) = true then _ else _) _ _ s
  rw [if_neg hno, pick_rev]
  first
    | exact wpAny_bind (m := Builtin.Tuple.tupleExact _) (wpAny_newObj_type (wpAny_pure ⟨_, rfl, wpAny_pure h⟩) hok)
    | exact wpAny_bind (m := Builtin.Tuple.tupleExact _) (wpAny_newObj_type (wpAny_bind (wpAny_pure (wpAny_pure ⟨_, rfl, wpAny_pure h⟩))) hok)
    | exact wpAny_bind (wpAny_bind (m := Builtin.Tuple.tupleExact _) (wpAny_newObj_type (wpAny_pure (wpAny_pure ⟨_, rfl, wpAny_pure h⟩)) hok))
    | exact wpAny_bind (wpAny_bind (m := Builtin.Tuple.tupleExact _) (wpAny_newObj_type (wpAny_pure ⟨_, rfl, wpAny_pure h⟩) hok))
end
section
variable {X : Cy} {e : Expr} {te : TE} {k : Nat} {p1 p2 p3 pos : Pos}
def tRevT (K : PySem.W.Frag) (te : TE) : TE := fun σ H Q => te σ H fun x H1 => ∃ a xs, x = .ref a ∧ SqT K H1 a xs ∧ ∀ p, H1 p = none → Q (.ref p) (upd H1 p (.tup xs.reverse))
theorem pe_revT (he : PE X e te) : PE X (.Subscript e (.Slice none none (some (.UnaryOp .USub (.Constant (.int 1) k p1) p2)) p3) pos) (tRevT X.K te) := by
  refine ⟨fun pins s σ H Q I h => ?_⟩
  refine Subscript_ (thn (he.run pins s σ H _ I h) fun v s1 ⟨x, H1, I1, r1, q1⟩ => ?_)
  obtain ⟨a, xs, ex, hx, q⟩ := q1
  subst ex
  cases r1
  have hst : PO X (some (.UnaryOp .USub (.Constant (.int 1) k p1) p2)) (tPart (tUn (rU fun i => .int (-i)) (tC (.int 1)))) := po_some (pe_un un_neg pe_int)
  refine wpAny_Slice (thn (po_none.run pins s1 σ H1 (fun o H2 => o = none ∧ H2 = H1) I1 ⟨rfl, rfl⟩) fun vl s2 ⟨l, H2, I2, pl, el, e2⟩ => ?_)
  subst el e2
  refine thn (po_none.run pins s2 σ H2 (fun o H3 => o = none ∧ H3 = H2) I2 ⟨rfl, rfl⟩) fun vu s3 ⟨u, H3, I3, pu, eu, e3⟩ => ?_
  subst eu e3
  refine thn (hst.run pins s3 σ H3 (fun o H4 => o = some (-1) ∧ H4 = H3) I3 ⟨1, rfl, -1, rfl, rfl, rfl⟩) fun vs s4 ⟨o, H4, I4, ps, eo, e4⟩ => ?_
  subst eo e4
  have I5 : Inv X pins σ H4 { s4 with heap := s4.heap.push { cls := .type "slice", data := .fields #[vl, vu, vs] } } := I4.kept (t' := s4.toks) fun b ob q => Heap.get?_push_of_some _ q
  obtain ⟨its, r, ht, hz⟩ := I5.tuple hx
  have hlen := r.length
  show wpAny (model X.prog X.w) X.A (subscriptTail e (.Slice none none (some (.UnaryOp .USub (.Constant (.int 1) k p1) p2)) p3) (.ref a) (.ref s4.heap.objs.size)) (EP X pins σ Q) X.xe { s4 with heap := s4.heap.push { cls := .type "slice", data := .fields #[vl, vu, vs] } }
  refine tail_any (ops := [.ref a, .ref s4.heap.objs.size]) ht.typeIs (PyProof.Rows.slot_tuple_getitem.lookup) ?_ (by with_unfolding_all rfl)
  refine item_tup_rev ht (Heap.IsSliceOf.new _ vl vu vs) pl pu ps ?_ (by rw [List.size_toArray]; omega)
  refine ⟨.ref _, _, I5.laid (t' := s4.toks) (o := .tup xs.reverse) (fun b ob q => Heap.get?_push_of_some _ q) (Nat.le_refl _) ?_, rfl, q _ (I5.hok.fresh (Nat.le_refl _))⟩
  exact ⟨by rw [List.length_reverse]; exact hz, _, r.reverse, IsTup.new _ _⟩
def rSortedTI (K : PySem.W.Frag) : List V → Hp → VK → Prop := fun vs H Q => ∃ (a : Addr) (ns : List Int), vs = [V.ref a] ∧ SqT K H a (ns.map V.int) ∧ ns.length < 64 ∧
  ∀ (ns' : List Int) (p : Addr), ns'.Perm ns → ns'.Pairwise (· ≤ ·) → H p = none → Q (.ref p) (upd H p (.lst (ns'.map V.int)))
theorem cr_sortedTI : CallR X (.builtin "sorted") (rSortedTI X.K) := by
  intro pins s σ H vs us Q I r h
  obtain ⟨a, ns, rfl, hs, h64, q⟩ := h
  obtain ⟨its, rv, ht, hz⟩ := I.tuple hs
  rw [Vals.ref1 r]
  have hl : its.length = ns.length := by have := rv.length; rw [List.length_map] at this; omega
  refine sorted_of_tup ht (ints_of_vals rv) (by omega) fun h1 h2 out c ns' k1 k2 hg hi pm pw => ?_
  have I1 : Inv X pins σ H { s with heap := h1 } := I.kept (t' := s.toks) k1
  have hn : H h1.objs.size = none := I1.hok.fresh (Nat.le_refl _)
  have hlen : (ns'.map V.int).length ≤ sizeLine := by rw [List.length_map, pm.length_eq, sizeLine_eq]; omega
  exact ⟨.ref h1.objs.size, upd H h1.objs.size (.lst (ns'.map V.int)), I1.laid (t' := s.toks) k2 (Nat.le_refl _) ⟨hlen, out.toList, c, vals_of_ints hi, hg⟩, rfl, q ns' _ pm pw hn⟩
end
section
variable {X : Cy} {e : Expr} {ρ : Rho} {μ : Mu} {Φ : D → Mu → Prop} {d : D} {k : Nat} {p1 p2 p3 pos pos2 : Pos}
theorem w_revT (h : wE X e ρ μ fun d μ1 => ∃ ds, d = .tup ds ∧ Φ (.tup ds.reverse) μ1) : wE X (.Subscript e (.Slice none none (some (.UnaryOp .USub (.Constant (.int 1) k p1) p2)) p3) pos) ρ μ Φ := fun F σ H hs sl Q kt =>
  se_of (pe_revT pe_s) (h F σ H hs sl _ fun v F1 H1 d μ1 ⟨ds, hd, q⟩ e1 hs1 r1 => by
    subst hd
    cases r1 with
    | tup g r =>
      refine ⟨_, _, rfl, Evl.st_of (hs1.ex _ _ g), fun p hp => ?_⟩
      obtain ⟨g1, g2⟩ := hs1.laid (u := .tup _) hp
      exact kt _ _ _ _ μ1 q (e1.trans g2) g1 (.tup upd_same (r.mono g2).reverse))
theorem c_sortedTI {ns : List Int} (hz : ns.length < 64) (k : ∀ ns' : List Int, ns'.Perm ns → ns'.Pairwise (· ≤ ·) → Φ (.lst (ns'.map D.int)) μ) : wCl X (.builtin "sorted") [.tup (ns.map D.int)] μ Φ :=
  wcl_of cr_sortedTI fun F H xs hs r1 Q kt => by
  cases r1 with
  | cons r rr =>
    cases rr
    cases r with
    | tup g r =>
      refine ⟨_, ns, rfl, by rw [← reps_ints r]; exact Evl.st_of (hs.ex _ _ g), hz, fun ns' q h1 h2 hq => ?_⟩
      obtain ⟨g1, g2⟩ := hs.laid (u := .lst (ns'.map V.int)) hq
      exact kt _ _ _ _ _ (k ns' h1 h2) g2 g1 (.lst upd_same (reps_map (fun n => .int n) ns'))
theorem w_sortedSet (hm : X.mg "sorted" = none) (hm2 : X.mg "set" = none) (h : wE X e ρ μ fun d μ1 => ∃ ns : List Int, d = .lst (ns.map D.int) ∧ ns.length < 64 ∧ ∀ ys : List Int, ys.Pairwise (· < ·) → (∀ k, k ∈ ys ↔ k ∈ ns) → Φ (.lst (ys.map D.int)) μ1)
    (hc : X.calm = true := by rfl) (hg : Gl X "sorted" := by rfl) (hg2 : Gl X "set" := by rfl)
    (he : starEach [Expr.Call (.Name "set" p2) [e] [] pos2] X.env = (false, eval (Expr.Call (.Name "set" p2) [e] [] pos2) X.env) :: starEach [] X.env := by rfl) (he2 : starEach [e] X.env = (false, eval e X.env) :: starEach [] X.env := by rfl) :
    wE X (.Call (.Name "sorted" p1) [.Call (.Name "set" p2) [e] [] pos2] [] pos) ρ μ Φ := fun F σ H hs sl Q kt =>
  se_of (pe_callB (cr_sortedSet hc) hg hm (by decide +kernel) (pa_cons (pe_callTy (cr_setL hc) hg2 hm2 (by decide +kernel) (pa_cons pe_s pa_nil he2) (he := he2)) pa_nil he) (he := he))
    (h F σ H hs sl _ fun v F1 H1 d μ1 ⟨ns, hd, hz, q⟩ e1 hs1 r1 => by
      subst hd
      cases r1 with
      | lst g r =>
        refine ⟨_, ns, rfl, by rw [← reps_ints r]; exact Evl.sq_of (hs1.ex _ _ g), hz, fun p c hp hc2 => ?_⟩
        obtain ⟨g1, g2⟩ := hs1.laid (u := SetO X.w p (fun j => decide (j ∈ ns)) c) hp
        refine ⟨p, _, c, rfl, upd_same, by omega, fun ys p2 hs2 hm3 hl hp2 => ?_⟩
        obtain ⟨g3, g4⟩ := g1.laid (u := .lst (ys.map V.int)) hp2
        exact kt _ _ _ _ _ (q ys hs2 fun k => (hm3 k).trans decide_eq_true_iff) (e1.trans (g2.trans g4)) g3 (.lst upd_same (reps_map (fun n => .int n) ys)))
end
end Oc

/-! Own layer: lists that stand still or cells: len, index, isinstance, comprehensions; l + l into a cell. -/
namespace Oc
open PySem PySem.Spec L2
open Evl (Ex)
section
variable {X : Cy} {μ : Mu} {Φ : D → Mu → Prop} {d : D} {ds : List D}
theorem o_addLC {xs ys : List D} (hc : xs.length + ys.length ≤ 1000000) (k : ∀ p, Φ (.ptr p) ((p, .lst (xs ++ ys)) :: μ)) : wOp X (binaryOp .Add) (.lst xs) (.lst ys) μ Φ := wop_of op_cat fun F H _ _ hs r1 r2 Q kt => by
  cases r1 with
  | lst g1 q1 =>
    cases r2 with
    | lst g2 q2 =>
      have l1 := q1.length
      have l2 := q2.length
      refine ⟨_, _, _, _, rfl, rfl, hs.ex _ _ g1, hs.ex _ _ g2, Nat.le_trans (by omega) (show 1000000 ≤ sizeLine by decide), fun p hp => ?_⟩
      exact kt _ _ _ _ _ (k p) (Ex.refl _) (hs.cell hp (.lst (q1.append q2))) (.ptr p)
theorem c_lenLV (h : LV d μ ds) (k : Φ (.int ds.length) μ) : wCl X (.builtin "len") [d] μ Φ := by
  rcases h with rfl | ⟨q, rfl, m, hm⟩
  · exact c_lenL k
  · exact c_lenP m hm k
theorem c_isiLV {n : String} {k : Bool} (h : LV d μ ds) (hk : PySem.W.kitOne X.K (.type "list") (.type n) = some k) (z : Φ (.bl k) μ) : wCl X (.builtin "isinstance") [d, .ty n] μ Φ := by
  rcases h with rfl | ⟨q, rfl, m, hm⟩
  · exact c_isi rfl hk z
  · exact c_isiP m hm hk z
theorem ix_LV {i : Int} {e : D} (n : Nat) (h : LV d μ ds) (hn : i = (n : Int)) (hd : ds[n]? = some e) (k : Φ e μ) : wIx X d (.int i) μ Φ := by
  rcases h with rfl | ⟨q, rfl, m, hm⟩
  · exact ix_lstD n hn hd k
  · exact ix_ptrD m hm n hn hd k
end
section
variable {X : Cy} {elt tg : Expr} {ifs : List Expr} {scope : Scope} {t : Tg} {vs : List Nat} {ρ : Rho} {μ μ1 : Mu} {Φ : D → Mu → Prop} {its : List D} {e : Expr} {d : D}
theorem wi_lv' {ΦI : List D → (Mu → Prop) → Mu → Prop} (h : wE X e ρ μ fun d μ1 => ∃ d', d = d' ∧ ∃ ds, LV d' μ1 ds ∧ ΦI ds (fun μ' => LV d' μ' ds) μ1) : wIP X tg e ρ μ ΦI :=
  wi_lv (w_mono h fun d μ1 ⟨d', hd, ds, hv, k⟩ => ⟨ds, hd ▸ hv, hd ▸ k⟩)
theorem lcq_mapV {α : Type} (l : List α) (f : α → D) (g : α → D) (he : its = l.map f) (hl : l.length ≤ 1000000)
    (ht : ∀ (p : Addr) (i : Nat) (x : α), l[i]? = some x → ∃ ρ', t.put (f x) (wipeR ρ vs) = some ρ' ∧ ∀ s H C cl fp, wE (blkE X scope s H C cl fp) elt ρ' ((p, .lst ((l.take i).map g)) :: μ1) fun d μ5 => d = g x ∧ μ5 = (p, .lst ((l.take i).map g)) :: μ1)
    (hd : ∀ p, Φ (.ptr p) ((p, .lst (l.map g)) :: μ1)) (hv : LV d μ1 its := by assumption) : LcQP X elt [] scope t vs ρ Φ its (fun μ' => LV d μ' its) μ1 :=
  lcq_mapP l f g he hl ht hd fun p acc => hv.cons _
end
end Oc

/-! Own layer: a op b op' c as a test. -/
namespace Oc
open PySem PySem.Spec L2
open Evl (Ex)
section
variable {X : Cy} {a b c : Expr} {ρ : Rho} {μ : Mu} {ΦT : Bool → Mu → Prop} {pos : Pos}
theorem wt_chain {op op' : CmpOp} (h : wE X a ρ μ fun d1 μ1 => wE X b ρ μ1 fun d2 μ2 => wOp X (compareOp op) d1 d2 μ2 fun d3 μ3 => ∃ k, d3 = .bl k ∧ (k = true → wE X c ρ μ3 fun d4 μ4 => wOp X (compareOp op') d2 d4 μ4 fun d μ5 => ∃ k', d = .bl k' ∧ ΦT k' μ5) ∧ (k = false → ΦT false μ3))
    (hm : lastMarks [op, op'] [b, c] = false := by with_unfolding_all rfl) : wT X (.Compare a [op, op'] [b, c] pos) ρ μ ΦT := fun F σ H hs sl Q kt =>
  st_of (pt_chain op_s op_s pe_s pe_s pe_s hm) (h F σ H hs sl _ fun x F1 H1 d1 μ1 h1 e1 hs1 r1 => h1 F1 σ H1 hs1 (sl.mono e1) _ fun y F2 H2 d2 μ2 h2 e2 hs2 r2 =>
    h2 F2 H2 x y hs2 (r1.mono e2) r2 _ fun z F3 H3 d3 μ3 h3 e3 hs3 r3 => by
      obtain ⟨k, rfl, ht, hf⟩ := h3
      cases r3
      refine ⟨k, rfl, ?_⟩
      cases k with
      | false =>
        rw [if_neg Bool.false_ne_true]
        exact ⟨false, rfl, kt _ F3 H3 μ3 (hf rfl) (e1.trans (e2.trans e3)) hs3⟩
      | true =>
        rw [if_pos rfl]
        exact ht rfl F3 σ H3 hs3 (sl.mono (e1.trans (e2.trans e3))) _ fun w F4 H4 d4 μ4 h4 e4 hs4 r4 => h4 F4 H4 y w hs4 (r2.mono (e3.trans e4)) r4 _ fun v F5 H5 d5 μ5 ⟨k', hd, q⟩ e5 hs5 r5 => by
          subst hd
          cases r5
          exact ⟨k', rfl, kt k' F5 H5 μ5 q (e1.trans (e2.trans (e3.trans (e4.trans e5)))) hs5⟩)
end
end Oc

/-! Own layer: bits of naturals, sum of a list, sorted(set(l)) up to some thousand, sorted rows. -/
namespace Oc
open PySem PySem.Spec L2 PyProof.Rows
open Evl (Ex)
theorem band_nat (a b : Nat) : Builtin.bitAnd (a : Int) (b : Int) = ((a &&& b : Nat) : Int) := by
  rw [bitAnd_pp (by omega) (by omega), Int.toNat_natCast, Int.toNat_natCast]
theorem nat_bor_band (n : Nat) : ∀ a b : Nat, a ≤ n → (a ||| b) + (a &&& b) = a + b := by
  induction n with
  | zero =>
    intro a b h
    rw [show a = 0 by omega, Nat.zero_or, Nat.zero_and]
    omega
  | succ n ih =>
    intro a b h
    by_cases h0 : a = 0
    · subst h0
      rw [Nat.zero_or, Nat.zero_and]
      omega
    have h1 := ih (a / 2) (b / 2) (by omega)
    have e1 : (a ||| b) / 2 = a / 2 ||| b / 2 := Nat.or_div_two
    have e2 : (a &&& b) / 2 = a / 2 &&& b / 2 := Nat.and_div_two
    have e3 : (a ||| b) % 2 = 1 ↔ a % 2 = 1 ∨ b % 2 = 1 := Nat.or_mod_two_eq_one
    have e4 : (a &&& b) % 2 = 1 ↔ a % 2 = 1 ∧ b % 2 = 1 := Nat.and_mod_two_eq_one
    rw [← e1, ← e2] at h1
    omega
theorem bor_nat (a b : Nat) : Builtin.bitOr (a : Int) (b : Int) = ((a ||| b : Nat) : Int) := by
  rw [bitOr_and, band_nat]
  have := nat_bor_band a a b (Nat.le_refl a)
  omega
section
variable {P : Program} {w : World} {A : Around} {E : Value → Shared → Prop} {s : Shared}
theorem sorted_setA {a : Addr} {S : Int → Bool} {n : Nat} {Q : Value → Shared → Prop} (R : SetR w s.heap a S n) (hh : A.handled = none)
    (hQ : ∀ s' p (out : Array Value) (c : Nat) (ns : List Int), (∀ b o, s.heap.get? b = some o → s'.heap.get? b = some o) → s'.gens = s.gens → s'.os = s.os → s.heap.objs.size ≤ p →
      s'.heap.get? p = some (seqObj "list" out c) → IntsAre out.toList ns → ns.Pairwise (· < ·) → (∀ k, k ∈ ns ↔ S k = true) → ns.length = n → Q (.ref p) s') :
    wpAny (model P w) A (call (.builtin "sorted") [.ref a]) Q E s := by
  obtain ⟨o, es, ep, t, ho, hex, hd, g, nd, hm, hb, hf, hn, hr, hl⟩ := R
  refine Calls.call_function_entry kind_sorted plain_sorted entry_sorted (args_sorted1 _) ?_
  unfold Builtin.«sorted»
  refine wpAny_bind (m := checkCount "sorted" 1 1 _) (wpAny_pure ?_)
  refine wpAny_bind (collect_set (A := A.in1) hh ⟨o, ho, hex.1, hd⟩ hf hb hr hl fun s1 vs k1 hz g1 o1 pm => ?_)
  have hvl : vs.length = n := by rw [pm.length_eq, List.length_map, Array.length_toList]; exact hn
  have hI : IntsAre vs (vs.map Builtin.Re.reRawOf) := ints_of vs fun v hv => by
    obtain ⟨e, he, q⟩ := List.mem_map.mp (pm.mem_iff.mp hv)
    obtain ⟨k, tk, h1, _⟩ := g e he
    exact ⟨k, tk, by rw [← q]; exact h1⟩
  have pk : (vs.map Builtin.Re.reRawOf).Perm (es.toList.map keyOf) := by
    have q := pm.map Builtin.Re.reRawOf
    rw [List.map_map] at q
    exact q
  have hz' : vs.length ≤ sizeLine := by rw [hvl, sizeLine_eq]; unfold scanBound at hb; omega
  refine wpAny_bind (wpAny_newList ?_ (by show vs.length ≤ _; exact hz'))
  have hoL : (s1.heap.push (seqObj "list" vs.toArray 0)).get? s1.heap.objs.size = some (seqObj "list" vs.toArray 0) := Heap.get?_push_size _ rfl
  refine wpAny_bind (wpAny_holding (wpAny_call_entry slot_list_sort ⟨_, hoL, rfl⟩ entry_list_sort (SrtO.list_sort_ord SrtO.swo_int hoL hz' (fun h2 => SrtO.ints_sortable hI h2) fun out b1 b2 => ⟨_, rfl, ?_⟩) (args_list_sort _)))
  obtain ⟨a1, a2, a3⟩ := SrtO.ints_out hI b1 b2
  obtain ⟨c, hc⟩ := sortedHeap_at (vs := vs) (out := out.toArray) hoL
  have pn : (out.map SrtO.iv).Perm (es.toList.map keyOf) := a2.trans pk
  refine wpAny_pure ⟨_, rfl, hQ _ s1.heap.objs.size out.toArray c (out.map SrtO.iv) (fun b u e => ?_) g1 o1 hz hc a1 (lt_of_le_nodup _ a3 (pn.nodup_iff.mpr nd)) (fun k => by rw [pn.mem_iff, ← hm k]) ?_⟩
  · have q := k1 b u e
    have hlt := Heap.lt_size q
    show (sortedHeap (s1.heap.push (seqObj "list" vs.toArray 0)) s1.heap.objs.size vs out.toArray).get? b = some u
    rw [sortedHeap_old (Nat.ne_of_lt hlt) (by rw [size_push']; exact Nat.lt_succ_of_lt hlt)]
    exact Heap.get?_push_of_some _ q
  · rw [pn.length_eq, List.length_map, Array.length_toList]; exact hn
end
section
variable {X : Cy}
def rSetA (K : PySem.W.Frag) (w : World) : List V → Hp → VK → Prop := fun xs H Q => ∃ (l : Addr) (ns : List Int), xs = [V.ref l] ∧ SqL K H l (ns.map V.int) ∧ ns.length ≤ 4094 ∧
  ∀ p c, H p = none → c ≤ ns.length → Q (.ref p) (upd H p (SetO w p (fun j => decide (j ∈ ns)) c))
theorem cr_setA (hc : X.calm = true) : CallR X (.type "set") (rSetA X.K X.w) := by
  intro pins s σ H xs us Q I r h
  obtain ⟨l, ns, rfl, hl, hz, q⟩ := h
  rw [Vals.ref1 r]
  obtain ⟨its, rv, pl, hz2⟩ := I.list hl
  have hn : H s.heap.objs.size = none := I.hok.fresh (Nat.le_refl _)
  refine set_of_ints (I.ok.hd hc) pl.isList (by simpa using ints_of_vals rv) (by unfold scanBound; omega) fun h' tk c R hc2 k => ?_
  exact ⟨.ref s.heap.objs.size, upd H s.heap.objs.size (SetO X.w s.heap.objs.size (fun j => decide (j ∈ ns)) c), I.laid (t' := tk) k (Nat.le_refl _) (setO_new R), rfl, q _ c hn hc2⟩
def rSortedSetA (w : World) : List V → Hp → VK → Prop := fun vs H Q => ∃ (a : Addr) (S : Int → Bool) (n : Nat), vs = [V.ref a] ∧ H a = some (SetO w a S n) ∧ n ≤ 4094 ∧
  ∀ (ns : List Int) (p : Addr), ns.Pairwise (· < ·) → (∀ k : Int, k ∈ ns ↔ S k = true) → ns.length = n → H p = none → Q (.ref p) (upd H p (.lst (ns.map V.int)))
theorem cr_sortedSetA (hc : X.calm = true) : CallR X (.builtin "sorted") (rSortedSetA X.w) := by
  intro pins s σ H vs us Q I r h
  obtain ⟨a, S, n, rfl, ha, h64, q⟩ := h
  have R := setO_get I ha
  rw [Vals.ref1 r]
  refine sorted_setA R (I.ok.hd hc) fun s' p out c ns k g o hp hg hi hs hm hl => ?_
  have hlen : (ns.map V.int).length ≤ sizeLine := by rw [List.length_map, hl, sizeLine_eq]; omega
  have hn : H p = none := I.hok.fresh hp
  have J : Inv X pins σ (upd H p (.lst (ns.map V.int))) { s with heap := s'.heap, gens := s'.gens, drawn := s'.drawn, toks := s'.toks } :=
    I.call (ch := []) (Un.laid k hp hn) (I.hok.laid k hp ⟨hlen, out.toList, c, vals_of_ints hi, hg⟩) (by rw [g]; exact I.bare) (fun _ z => nomatch z)
  have e : s' = { s with heap := s'.heap, gens := s'.gens, drawn := s'.drawn, toks := s'.toks } := by
    cases s'
    cases s
    cases o
    rfl
  rw [e]
  exact ⟨.ref p, _, J, rfl, q ns p hs hm hl hn⟩
end
section
variable {X : Cy} {e : Expr} {ρ : Rho} {μ : Mu} {Φ : D → Mu → Prop} {d : D} {k : Nat} {p1 p2 p3 pos pos2 : Pos}
theorem w_sortedSetA (hm : X.mg "sorted" = none) (hm2 : X.mg "set" = none) (h : wE X e ρ μ fun d μ1 => ∃ ns : List Int, d = .lst (ns.map D.int) ∧ ns.length ≤ 4094 ∧ ∀ ys : List Int, ys.Pairwise (· < ·) → (∀ k, k ∈ ys ↔ k ∈ ns) → Φ (.lst (ys.map D.int)) μ1)
    (hc : X.calm = true := by rfl) (hg : Gl X "sorted" := by rfl) (hg2 : Gl X "set" := by rfl)
    (he : starEach [Expr.Call (.Name "set" p2) [e] [] pos2] X.env = (false, eval (Expr.Call (.Name "set" p2) [e] [] pos2) X.env) :: starEach [] X.env := by rfl) (he2 : starEach [e] X.env = (false, eval e X.env) :: starEach [] X.env := by rfl) :
    wE X (.Call (.Name "sorted" p1) [.Call (.Name "set" p2) [e] [] pos2] [] pos) ρ μ Φ := fun F σ H hs sl Q kt =>
  se_of (pe_callB (cr_sortedSetA hc) hg hm (by decide +kernel) (pa_cons (pe_callTy (cr_setA hc) hg2 hm2 (by decide +kernel) (pa_cons pe_s pa_nil he2) (he := he2)) pa_nil he) (he := he))
    (h F σ H hs sl _ fun v F1 H1 d μ1 ⟨ns, hd, hz, q⟩ e1 hs1 r1 => by
      subst hd
      cases r1 with
      | lst g r =>
        refine ⟨_, ns, rfl, by rw [← reps_ints r]; exact Evl.sq_of (hs1.ex _ _ g), hz, fun p c hp hc2 => ?_⟩
        obtain ⟨g1, g2⟩ := hs1.laid (u := SetO X.w p (fun j => decide (j ∈ ns)) c) hp
        refine ⟨p, _, c, rfl, upd_same, by omega, fun ys p2 hs2 hm3 hl hp2 => ?_⟩
        obtain ⟨g3, g4⟩ := g1.laid (u := .lst (ys.map V.int)) hp2
        exact kt _ _ _ _ _ (q ys hs2 fun k => (hm3 k).trans decide_eq_true_iff) (e1.trans (g2.trans g4)) g3 (.lst upd_same (reps_map (fun n => .int n) ys)))
theorem c_sumI {ns : List Int} (k : Φ (.int ns.sum) μ) (hc : X.calm = true := by rfl) : wCl X (.builtin "sum") [.lst (ns.map D.int)] μ Φ :=
  wcl_of (cr_sum hc) fun F H xs hs r1 Q kt => by
  cases r1 with
  | cons r rr =>
    cases rr
    cases r with
    | lst g r => exact ⟨_, ns, rfl, by rw [← reps_ints r]; exact Evl.sq_of (hs.ex _ _ g), kt.now k hs (.int _)⟩
/-- sorted(l), l a list of data: the same ones, rising -/
def rSortedR (K : PySem.W.Frag) : List V → Hp → VK → Prop := fun vs H Q => ∃ (a : Addr) (bs : List (V × D)), vs = [V.ref a] ∧ SqL K H a (bs.map Prod.fst) ∧ (∀ b ∈ bs, Dp K H b.1 b.2.py) ∧ PySem.W.AllAlike (bs.map fun b => b.2.py) ∧ PySem.W.Sortable (bs.map fun b => b.2.py) ∧ (∀ b ∈ bs, b.2.py.depth ≤ 8) ∧
  ∀ (bs' : List (V × D)) (p : Addr), bs'.Perm bs → bs'.Pairwise (fun b c => PySem.W.dataLt c.2.py b.2.py = false) → H p = none → Q (.ref p) (upd H p (.lst (bs'.map Prod.fst)))
theorem cr_sortedR (hu : X.c.A.units + 64 < cLine) : CallR X (.builtin "sorted") (rSortedR X.K) := by
  intro pins s σ H vs us Q I r h
  obtain ⟨a, bs, rfl, hs, hd, hal, hk, hdp, q⟩ := h
  obtain ⟨its, rv, hl, hz⟩ := I.list hs
  rw [Vals.ref1 r]
  have each : ∀ {its : List Value} {bs : List (V × D)}, Vals (bs.map Prod.fst) its → (∀ b ∈ bs, Dp X.K H b.1 b.2.py) → PySem.W.EachIs (fun u (b : V × D) => RelV b.1 u) its bs ∧ PySem.W.EachIs (fun u (b : V × D) => ∃ as, Reads s.heap u b.2.py as) its bs := fun {its bs} rv hd => by
    induction bs generalizing its with
    | nil => cases rv; exact ⟨.nil, .nil⟩
    | cons b bs ih =>
      cases rv with
      | cons r rr =>
        obtain ⟨h1, h2⟩ := ih rr fun c hc => hd c (List.mem_cons_of_mem _ hc)
        exact ⟨.cons r h1, .cons (Dp.reads I _ _ _ (hd b List.mem_cons_self) r) h2⟩
  have back : ∀ {its : List Value} {bs : List (V × D)}, PySem.W.EachIs (fun u (b : V × D) => RelV b.1 u) its bs → Vals (bs.map Prod.fst) its := fun {its bs} e => by
    induction e with
    | nil => exact .nil
    | cons h _ ih => exact .cons h ih
  obtain ⟨e1, e2⟩ := each rv hd
  have hzb : bs.length ≤ sizeLine := by rw [List.length_map] at hz; exact hz
  have hpm := List.mergeSort_perm bs (PySem.W.dataLe false fun b : V × D => b.2.py)
  refine PySem.W.sorted_data (enc := fun b : V × D => b.2.py) hl.isList e1 e2 hal hk hzb (fun b hb => by have := hdp b hb; omega) fun out hlo eo => ?_
  obtain ⟨ep, he'⟩ := PyProof.Rows.sortedAll_at s.heap its out.toArray
  have hlen : ((bs.mergeSort (PySem.W.dataLe false fun b : V × D => b.2.py)).map Prod.fst).length ≤ sizeLine := by rw [List.length_map, hpm.length_eq]; exact hzb
  have hsrt : (bs.mergeSort (PySem.W.dataLe false fun b : V × D => b.2.py)).Pairwise (fun b c => PySem.W.dataLt c.2.py b.2.py = false) := by
    have h := PySem.W.sort_pairwise (PySem.W.sortLe_total (listOrd itemOrd) false fun b : V × D => PySem.W.keyToks b.2.py) bs
    refine List.Pairwise.imp (fun {b c} h => ?_) h
    have h : (!PySem.W.dataLt c.2.py b.2.py) = true := h
    simpa using h
  exact ⟨.ref _, upd H (s.heap.objs.size + 1) (.lst ((bs.mergeSort (PySem.W.dataLe false fun b : V × D => b.2.py)).map Prod.fst)), I.laid (t' := s.toks) (fun _ _ => PyProof.Rows.sortedAll_old) (Nat.le_succ _) ⟨hlen, out, ep, back eo, he'⟩, rfl, q _ _ hpm hsrt (I.hok.fresh (Nat.le_succ _))⟩
theorem c_sortedR {ds : List D} (hu : X.c.A.units + 64 < cLine) (hy : ∀ d ∈ ds, Ly d 8) (hal : ∀ d ∈ ds, ∀ e ∈ ds, PySem.W.alike d.py e.py = true) (hk : ∀ d ∈ ds, ∃ x r, d.py = .tuple (x :: r))
    (k : ∀ ds' : List D, ds'.Perm ds → ds'.Pairwise (fun b c => PySem.W.dataLt c.py b.py = false) → Φ (.lst ds') μ) : wCl X (.builtin "sorted") [.lst ds] μ Φ :=
  wcl_of (cr_sortedR hu) fun F H vs hs r1 Q kt => by
  cases r1 with
  | cons r rr =>
    cases rr
    cases r with
    | lst g r =>
      rename_i a xs
      have zips : ∀ {xs : List V} {ds : List D}, Reps X.K F xs ds → ∃ zs : List (V × D), zs.map Prod.fst = xs ∧ zs.map Prod.snd = ds ∧ ∀ z ∈ zs, Rep X.K F z.1 z.2 := fun {xs ds} r => by
        induction ds generalizing xs with
        | nil => cases r; exact ⟨[], rfl, rfl, fun z hz => (nomatch hz)⟩
        | cons d ds ih =>
          cases r with
          | cons r rr =>
            obtain ⟨zs, h1, h2, h3⟩ := ih rr
            refine ⟨(_, d) :: zs, by rw [List.map_cons, h1], by rw [List.map_cons, h2], fun z hz => ?_⟩
            rcases List.mem_cons.mp hz with rfl | hz
            · exact r
            · exact h3 z hz
      obtain ⟨zs, rfl, rfl, hz⟩ := zips r
      have hm : ∀ z ∈ zs, z.2 ∈ zs.map Prod.snd := fun z hz => List.mem_map.mpr ⟨z, hz, rfl⟩
      have back : ∀ {F1 : Hp} (l : List (V × D)), (∀ z ∈ l, Rep X.K F1 z.1 z.2) → Reps X.K F1 (l.map Prod.fst) (l.map Prod.snd) := fun {F1} l h => by
        induction l with
        | nil => exact .nil
        | cons z l ih => exact .cons (h z List.mem_cons_self) (ih fun y hy => h y (List.mem_cons_of_mem _ hy))
      refine ⟨_, zs, rfl, Evl.sq_of (hs.ex _ _ g), fun z hz' => rep_py hs.ex (hz z hz') (hy _ (hm z hz')).st, ?_, ?_, fun z hz' => (hy _ (hm z hz')).dp, fun zs' q hp hs' hq => ?_⟩
      · intro d hd d' hd'
        obtain ⟨z, hz1, rfl⟩ := List.mem_map.mp hd
        obtain ⟨z', hz2, rfl⟩ := List.mem_map.mp hd'
        exact hal _ (hm z hz1) _ (hm z' hz2)
      · refine .inl fun d hd => ?_
        obtain ⟨z, hz1, rfl⟩ := List.mem_map.mp hd
        exact hk _ (hm z hz1)
      · obtain ⟨g1, g2⟩ := hs.laid (u := .lst (zs'.map Prod.fst)) hq
        exact kt _ _ _ _ _ (k (zs'.map Prod.snd) (hp.map _) (List.pairwise_map.mpr hs')) g2 g1 (.lst upd_same (back zs' fun z hz1 => (hz z (hp.mem_iff.mp hz1)).mono g2))
end
end Oc

/-! Own layer: refusals: defs that may raise, raise, try .. except. -/
namespace Oc
open PySem PySem.Spec L2
open Evl (Ex)
/-- what is wanted of a refusal: its class, its fields, the cells -/
abbrev XW := Addr → List Str → List D → Mu → Prop
/-- what a refusal's dict holds -/
inductive ExR (K : PySem.W.Frag) (F : Hp) : Option Addr → List Str → List D → Prop
  | no : ExR K F none [] []
  | fs {d : Addr} {kvs : List (Str × V)} {ks : List Str} {vs : List D} : F d = some (.xd kvs) → kvs.map (·.1) = ks → Reps K F (kvs.map (·.2)) vs → ks ≠ [] → ExR K F (some d) ks vs
theorem ExR.mono {K : PySem.W.Frag} {F F' : Hp} {d : Option Addr} {ks : List Str} {vs : List D} (e : Ex F F') : ExR K F d ks vs → ExR K F' d ks vs
  | .no => .no
  | .fs h e2 r ne => .fs (e _ _ h) e2 (r.mono e) ne
def KontX (K : KF) (F : Hp) (Ψ : XW) (E : XK) : Prop := ∀ C d ks vs F' H' μ', Ψ C ks vs μ' → ExR K F' d ks vs → Ex F F' → Hs K F' μ' H' → E (.ref C) d H'
theorem KontX.mono {K : KF} {F F' : Hp} (e : Ex F F') {Ψ : XW} {E : XK} (k : KontX K F Ψ E) : KontX K F' Ψ E := fun C d ks vs F1 H1 μ1 h r x => k C d ks vs F1 H1 μ1 h r (e.trans x)
/-- what leaves X is taken, at slots and cells -/
def Tk (X : Cy) (Ψ : Addr → List Str → List D → Rho → Mu → Prop) : Prop := ∃ W : WX, Takes X W ∧ ∀ C d ks vs F σ H ρ μ, Ψ C ks vs ρ μ → ExR X.K F d ks vs → Hs X.K F μ H → Sl X.K F ρ σ → W (.ref C) d σ H
theorem Tk.imp {X : Cy} {Ψ Ψ' : Addr → List Str → List D → Rho → Mu → Prop} (t : Tk X Ψ) (h : ∀ C ks vs ρ μ, Ψ' C ks vs ρ μ → Ψ C ks vs ρ μ) : Tk X Ψ' := by
  obtain ⟨W, h1, h2⟩ := t
  exact ⟨W, h1, fun C d ks vs F σ H ρ μ q => h2 C d ks vs F σ H ρ μ (h _ _ _ _ _ q)⟩
abbrev FX := List D → Mu → (D → Mu → Prop) → XW → Prop
def spX (K : PySem.W.Frag) (S : FX) : Sp := fun vs H Q E => ∃ (g F : Hp) (ds : List D) (μ : Mu) (Φ : D → Mu → Prop) (Ψ : XW), Hs ⟨K, g⟩ F μ H ∧ Reps K F vs ds ∧ S ds μ Φ Ψ ∧ Kont ⟨K, g⟩ F Φ Q ∧ KontX ⟨K, g⟩ F Ψ E
theorem Hs.regr {K : KF} {F H : Hp} {μ : Mu} (h : Hs K F μ H) {g : Hp} (e : Ex g F) : Hs ⟨K.k, g⟩ F μ H := ⟨h.ex, h.nd, h.mu, e⟩
/-- a def's promise, where it may raise -/
structure FnX (P : Program) (w : World) (K : PySem.W.Frag) (mg : Str → Option Value) (base : Heap) (k : Nat) (f : Addr) (fd : FuncData) (ps : List Str) (S : FX) : Prop where
  len : ∀ ds μ Φ Ψ, S ds μ Φ Ψ → ds.length = ps.length
  run : ∀ (A : Around) (outer : List Env) (s : Shared) (H : Hp) (args : Args) (us : List Value) (vs : List V) (Q : VK) (E : XK), Rm k A → Env0 P w K mg base A outer s H → BindsTo s fd args (ps.zip us) → Vals vs us → spX K S vs H Q E →
    codeAny (model P w) A (.call (.ref f) args) (CR (L2.CX P w) outer P w H s Q E) s
theorem spX_len {K : PySem.W.Frag} {S : FX} {n : Nat} (len : ∀ ds μ Φ Ψ, S ds μ Φ Ψ → ds.length = n) {vs : List V} {H : Hp} {Q : VK} {E : XK} (h : spX K S vs H Q E) : vs.length = n := by
  obtain ⟨_, _, ds, μ, Φ, Ψ, _, r, q, _⟩ := h
  exact r.length.trans (len ds μ Φ Ψ q)
section
variable {X : Cy} {k : Nat} {f : Addr} {fd : FuncData} {ps : List Str} {S : FX}
theorem fnX_run {pins : List (Addr × Obj)} {σ : L2.St} {H : Hp} {s : Shared} {Q : VK} {E : XK} {us : List Value} {vs : List V} (F : FnX X.prog X.w X.K X.mg X.base k f fd ps S) (hr : Rm k X.A) (hb : Binds X.K fd ps []) (hx : ∀ e s', L2.CX X.prog X.w X.stack H s E e s' → X.xe e s') (I : Inv X pins σ H s) (r : Vals vs us) (h : spX X.K S vs H Q E) :
    wpAny (model X.prog X.w) X.A (call (.ref f) us) (EP X pins σ Q) X.xe s := by
  have n1 : (us ++ []).length = ps.length := by rw [List.append_nil, ← r.length]; exact spX_len F.len h
  have b1 := hb s us I.kIn n1
  rw [List.append_nil] at b1
  refine wpAny_call (codeAny_mono (F.run X.A X.stack s H ⟨us, []⟩ us vs Q E hr I.env0 b1 r h) fun res s2 hq => ?_)
  rcases res with e | fl
  · exact hx e s2 hq
  · cases fl <;> first | exact I.after hq | exact False.elim hq
end
section
open PyProof.Rows
variable {P : Program} {w : World} {K : PySem.W.Frag} {mg : Str → Option Value} {base : Heap}
theorem fnX_ofC {x : Str} {st : Stmt} {f : Addr} {fd : FuncData} {N ps : List Str} {k : Nat} {S : FX} (F : Fun K x x st f fd) (Sc : FnScope N ps (defScope st)) (len : ∀ ds μ Φ Ψ, S ds μ Φ Ψ → ds.length = ps.length)
    (body : ∀ (cdv : Value), fd.code = cdv → ∀ (A : Around) (outer : List Env) (s : Shared) (H : Hp) (E : XK) (g : Hp), Rm k (A.deeper (envOfC x (defScope st) s.heap.objs.size f cdv)) → ∀ ds μ Φ Ψ, S ds μ Φ Ψ →
      Tk ⟨cxOf (L2.CX P w) P w K mg base N x (defScope st) f cdv A outer s H E, g⟩ (fun C ks vs _ μ' => Ψ C ks vs μ') → PassesOwn (model P w) (A.deeper (envOfC x (defScope st) s.heap.objs.size f cdv)) (envOfC x (defScope st) s.heap.objs.size f cdv) (cxOf (L2.CX P w) P w K mg base N x (defScope st) f cdv A outer s H E).xe →
      wSs ⟨cxOf (L2.CX P w) P w K mg base N x (defScope st) f cdv A outer s H E, g⟩ (defBody st) (rho N ds) μ { nx := fun _ μ' => Φ .non μ', rt := Φ }) : FnX P w K mg base (k + 1) f fd ps S := by
  obtain ⟨oc, od, kV, doc, pm, an, cdv, ct, osl, rfl, lk, hcd⟩ := F.ex
  refine ⟨len, fun A outer s H args us vs Q E hr e0 hb r hsp => ?_⟩
  have hl := spX_len len hsp
  have kS : K.In s.heap := e0.mod.kin.keeps fun b o e => (e0.bs b o e).1
  have nl : s.heap.NoLimit := Heap.NoLimit.keeps e0.mod.nolimit fun b o e => (e0.bs b o e).1
  have kinds : ∀ y ∈ ps.zip us, (defScope st).names.lookup y.1 = some .local ∨ ((defScope st).names.lookup y.1 = some .cell ∧ ((cellsFrom (s.heap.objs.size + 1) (defScope st).names []).lookup y.1).isSome = true) := by
    rintro ⟨n, v⟩ hy
    exact (Sc.par n (List.of_mem_zip hy).1).imp id fun q => ⟨q, PySem.W.cellsFrom_some _ _ _ (.inl q)⟩
  refine codeAny_call_function hr.r.depth (kS _ _ lk) rfl Sc.co Sc.gen rfl (PySem.W.codeRec_of kS hcd) (hb _ _ _ _ (wpAny_newFunctionEnv_cells Sc.kind kinds fun env he s1 x1 => ?_))
  subst he
  refine ⟨nl.keeps x1.toInCall.keep, codeAny_func ?_⟩
  have I : Inv (cxOf (L2.CX P w) P w K mg base N x (defScope st) f cdv A outer s H E) [] (L2.start N vs) H s1 := inv_start Sc hr.r.hd e0 hl r x1
  obtain ⟨g, F', ds, μ, Φ, Ψ, hs, rr, q, kt, kx⟩ := hsp
  have tk : Tk ⟨cxOf (L2.CX P w) P w K mg base N x (defScope st) f cdv A outer s H E, F'⟩ (fun C ks vs _ μ' => Ψ C ks vs μ') := by
    refine ⟨fun cls d _ H' => E cls d H', takes_of (X := cxOf (L2.CX P w) P w K mg base N x (defScope st) f cdv A outer s H E) rfl rfl rfl rfl, fun C d ks vs F1 σ1 H1 ρ1 μ1 q1 x1 hs1 sl1 => ?_⟩
    exact kx C d ks vs F1 H1 μ1 q1 x1 hs1.gr (hs1.regr (hs.gr.trans hs1.gr))
  have B := body cdv rfl A outer s H E F' (hr.in _) ds μ Φ Ψ q tk (passes_of (X := cxOf (L2.CX P w) P w K mg base N x (defScope st) f cdv A outer s H E) rfl) F' (L2.start N vs) H (hs.regr (Ex.refl F')) (sl_start rr) { nx := fun _ H' => Q .non H', rt := Q, bk := fun _ _ => False, ct := fun _ _ => False }
    ⟨fun F1 H1 σ1 ρ1 μ1 q e1 hs1 sl1 => kt .non F1 H1 .non μ1 q e1 (hs1.regr (hs.gr.trans e1)) .non, fun v F1 H1 d μ1 q e1 hs1 r1 => kt v F1 H1 d μ1 q e1 (hs1.regr (hs.gr.trans e1)) r1, fun F1 H1 σ1 ρ1 μ1 q => False.elim q, fun F1 H1 σ1 ρ1 μ1 q => False.elim q⟩
  have B2 := (pss_s (X := ⟨cxOf (L2.CX P w) P w K mg base N x (defScope st) f cdv A outer s H E, F'⟩)).run [] s1 (L2.start N vs) H _ I B
  refine wpAny_mono B2 (fun fl s' z => ?_) fun e s' z => z
  have fin : ∀ {σ' : L2.St} {H' : Hp} {v : V} {u : Value}, Inv (cxOf (L2.CX P w) P w K mg base N x (defScope st) f cdv A outer s H E) [] σ' H' s' → RelV v u → Q v H' → CE outer P w H s Q u s' := fun {_ H' v _} J rv q => ⟨v, H', J.os, J.bare, J.base, J.hok, rv, q⟩
  cases fl with
  | next => obtain ⟨_, _, J, q⟩ := z; exact fin (v := .non) (u := .none) J rfl q
  | ret u => obtain ⟨_, _, _, J, rv, q⟩ := z; exact fin J rv q
  | brk => obtain ⟨_, _, _, q⟩ := z; exact q.elim
  | cont => obtain ⟨_, _, _, q⟩ := z; exact q.elim
theorem fnX_of {x : Str} {st : Stmt} {f : Addr} {fd : FuncData} {N ps : List Str} {k : Nat} {S : FX} (F : Fun K x x st f fd) (Sc : FnScope N ps (defScope st)) (len : ∀ ds μ Φ Ψ, S ds μ Φ Ψ → ds.length = ps.length)
    (body : ∀ (cdv : Value) (A : Around) (outer : List Env) (s : Shared) (H : Hp) (E : XK) (g : Hp), Rm k (A.deeper (envOfC x (defScope st) s.heap.objs.size f cdv)) → ∀ ds μ Φ Ψ, S ds μ Φ Ψ →
      Tk ⟨cxOf (L2.CX P w) P w K mg base N x (defScope st) f cdv A outer s H E, g⟩ (fun C ks vs _ μ' => Ψ C ks vs μ') → PassesOwn (model P w) (A.deeper (envOfC x (defScope st) s.heap.objs.size f cdv)) (envOfC x (defScope st) s.heap.objs.size f cdv) (cxOf (L2.CX P w) P w K mg base N x (defScope st) f cdv A outer s H E).xe →
      wSs ⟨cxOf (L2.CX P w) P w K mg base N x (defScope st) f cdv A outer s H E, g⟩ (defBody st) (rho N ds) μ { nx := fun _ μ' => Φ .non μ', rt := Φ }) : FnX P w K mg base (k + 1) f fd ps S :=
  fnX_ofC F Sc len fun cdv _ => body cdv
/-- a def whose promise is shown, where it may raise -/
structure KnX (P : Program) (w : World) (K : PySem.W.Frag) (mg : Str → Option Value) (base : Heap) (k : Nat) (x : Str) (ps : List Str) (S : FX) : Prop where
  ex : ∃ f fd, mg x = some (.ref f) ∧ PySem.W.keepIn K (.ref f) = true ∧ Binds K fd ps [] ∧ FnX P w K mg base k f fd ps S
theorem kn_ofX {x : Str} {st : Stmt} {N ps : List Str} {k : Nat} {S : FX} (B : Src K mg x st ps) (Sc : FnScope N ps (defScope st)) (len : ∀ ds μ Φ Ψ, S ds μ Φ Ψ → ds.length = ps.length)
    (body : ∀ (f : Addr) (cdv : Value) (A : Around) (outer : List Env) (s : Shared) (H : Hp) (E : XK) (g : Hp), Rm k (A.deeper (envOfC x (defScope st) s.heap.objs.size f cdv)) → ∀ ds μ Φ Ψ, S ds μ Φ Ψ →
      Tk ⟨cxOf (L2.CX P w) P w K mg base N x (defScope st) f cdv A outer s H E, g⟩ (fun C ks vs _ μ' => Ψ C ks vs μ') → PassesOwn (model P w) (A.deeper (envOfC x (defScope st) s.heap.objs.size f cdv)) (envOfC x (defScope st) s.heap.objs.size f cdv) (cxOf (L2.CX P w) P w K mg base N x (defScope st) f cdv A outer s H E).xe →
      wSs ⟨cxOf (L2.CX P w) P w K mg base N x (defScope st) f cdv A outer s H E, g⟩ (defBody st) (rho N ds) μ { nx := fun _ μ' => Φ .non μ', rt := Φ }) : KnX P w K mg base (k + 1) x ps S := by
  obtain ⟨f, fd, F, hm, hb⟩ := B.ex
  exact ⟨f, fd, hm, F.kp, hb, fnX_of F Sc len (body f)⟩
end
section
variable {X : Cy} {e : Expr} {es : List Expr} {sts : List Stmt} {ρ : Rho} {μ : Mu} {Φ : D → Mu → Prop} {E : En} {pos p : Pos} {Ψ : Addr → List Str → List D → Rho → Mu → Prop}
theorem tk_none {X : Cy} : Tk X (fun _ _ _ _ _ => False) := ⟨fun _ _ _ _ => False, takes0, fun _ _ _ _ _ _ _ _ _ q => q.elim⟩
/-- a call that may raise -/
theorem w_callX {x : Str} {k k0 : Nat} {ps : List Str} {S : FX} (G : KnX X.prog X.w X.K X.mg X.base k x ps S) (tk : Tk X Ψ) (hr : Rm k0 X.A) (h : wA X (e :: es) ρ μ fun ds μ1 => S ds μ1 Φ fun C ks vs μ2 => Ψ C ks vs ρ μ2) (hk : k ≤ k0 := by decide) (hg : Gl X x := by rfl) (hdb : (x == ("__debug__" : Str)) = false := by decide)
    (he : starEach (e :: es) X.env = (false, eval e X.env) :: starEach es X.env := by rfl) (hpl : (backTo pos (starEach es X.env)).any (·.1) = false := by rfl) : wE X (.Call (.Name x p) (e :: es) [] pos) ρ μ Φ := by
  obtain ⟨f, fd, hm, kp, hb, G⟩ := G.ex
  obtain ⟨W, tW, hW⟩ := tk
  have P1 : PE X (.Call (.Name x p) (e :: es) [] pos) fun σ H Q => sA X (e :: es) σ H fun vs H1 => spX X.K S vs H1 Q fun cls d H2 => W cls d σ H2 := ⟨fun pins s σ H Q I h => wpAny_Call_Name_kw (ld_glob I hg hm
    (PySem.W.callWith_K (h₀ := X.base) I.ok.mod.kin kp (thn (pa_s.run pos pins s σ H _ I h) fun us s1 ⟨vs, H1, I1, r, q⟩ => ⟨I1.kIn, fnX_run G (hr.le hk) hb (fun e s' c => tW e s' (XE.of_call I1 (fun _ _ _ h => h) c)) I1 r q⟩) he hpl) hdb)⟩
  exact fun F σ H hs sl Q kt => se_of P1 (h F σ H hs sl _ fun xs F1 H1 ds μ1 q e1 hs1 r1 => ⟨X.g, F1, ds, μ1, Φ, _, hs1, r1, q, kt.mono e1, fun C d ks vs F2 H2 μ2 z x2 e2 hs2 => hW C d ks vs F2 σ H2 ρ μ2 z x2 hs2 (sl.mono (e1.trans e2))⟩)
/-- raise X('m'), X without own __init__ -/
theorem w_raise {C : Addr} {x m : Str} {j : Nat} {p p2 pos2 : Pos} {bmB : List Value} {B newId initId : String} (tk : Tk X Ψ) (hc : X.calm = true) (F : ExcBaseFacts B newId initId bmB) (q : PySem.W.excIn X.K C bmB newId = true) (gC : X.mg x = some (.ref C)) (kC : PySem.W.keepIn X.K (.ref C) = true) (r : Raises X (.ref C)) (h : Ψ C [] [] ρ μ) (hg : Gl X x := by rfl) (hdb : (x == ("__debug__" : Str)) = false := by decide) :
    wS X (.Raise (some (.Call (.Name x p) [.Constant (.str m) j p2] [] pos)) none pos2) ρ μ E := fun F0 σ H hs sl D kt => by
  obtain ⟨W, tW, hW⟩ := tk
  exact ss_of (ps_raise hc tW (pmk_own F q gC kC r hg hdb)) (hW C none [] [] F0 σ H ρ μ h .no hs sl)
/-- a class by its name -/
theorem w_cls {x : Str} {C : Addr} (gC : X.mg x = some (.ref C)) (k : Φ (.ptr C) μ) (hg : Gl X x := by rfl) (hd : (x == ("__debug__" : Str)) = false := by decide) : wE X (.Name x pos) ρ μ Φ := fun F σ H hs sl Q kt =>
  se_of (pe_glob (v := .ref C) hg gC rfl hd) (kt _ F H _ μ k (Ex.refl F) hs (.ptr C))
end
end Oc

/-! Own layer: try: body, except X as n: suite; the refusal that was caught is a cell that is known. -/
namespace Oc
open PySem PySem.Spec L2 PyProof.Rows
open Evl (Ex)
theorem track {X : Cx} {pins : List (Addr × Obj)} {σ : L2.St} {H : Hp} {s : Shared} {a : Addr} {oe : Obj} {vs : Array Value} (I : Inv X pins σ H s) (ha : s.heap.get? a = some oe) (hd : oe.data = .fields vs) (na : H a = none) (h0 : X.s_0.heap.get? a = none) (nL : a ≠ X.env.locals) (np : ∀ p ∈ X.pn ++ pins, p.1 ≠ a) :
    Inv X pins σ (upd H a (.frz oe (.own a))) s where
  ok := I.ok
  os := I.os
  bare := I.bare
  base := ⟨I.base.keep, I.base.slot, fun b o e n hx => by
      have hb : b ≠ a := fun z => by subst z; rw [h0] at e; cases e
      rw [upd_ne hb]
      exact I.base.free b o e n hx, I.base.there, fun b xs e => by
      have q := I.base.tups b xs e
      rw [upd_ne (ne_of_none q na)]; exact q, fun b o u e => by
      have q := I.base.frzs b o u e
      rw [upd_ne (ne_of_none q na)]; exact q, fun b ps e => by
      obtain ⟨m, q⟩ := I.base.tbls b ps e
      exact ⟨m, by rw [upd_ne (ne_of_none q na)]; exact q⟩⟩
  loc := I.loc
  cell := I.cell
  free := by rw [upd_ne (Ne.symm nL)]; exact I.free
  freeC := fun x c e => by
    have hc : c ≠ a := fun z => by
      subst z
      obtain ⟨v, o, q1, q2⟩ := I.cell x c e
      rw [ha] at q1
      cases q1
      rw [hd] at q2
      cases q2
    rw [upd_ne hc]
    exact I.freeC x c e
  pin := fun p hp => by
    obtain ⟨e, n, r⟩ := I.pin p hp
    exact ⟨e, by rw [upd_ne (np p hp)]; exact n, r⟩
  hok := fun b u e => by
    by_cases hb : b = a
    · subst hb
      rw [upd_same] at e
      cases e
      exact ⟨ha, oe, ha⟩
    · rw [upd_ne hb] at e
      exact (I.hok b u e).stay (fun c v _ q => q) (fun c q => by rw [upd_ne (ne_of_none q na)]; exact q) fun c xs q => by rw [upd_ne (ne_of_none q na)]; exact q
  len := I.len

/-- what the clause 'except x as n' wishes: behind the suite the refusal is known -/
def wAsK (K : PySem.W.Frag) (c : Value) (i : Nat) (ts : Addr → Value → Option Addr → TS) (D : Ends) : WX := fun cls d σ H =>
  PySem.W.exmOne K cls c = some true ∧ ∀ a, H a = none → ts a cls d
    { nx := fun σ' H' => ∀ o, Zc cls d o → (∃ vs, o.data = .fields vs) → H' a = none → D.nx (σ'.set i none) (upd H' a (.frz o (.own a))),
      rt := fun v H' => ∀ o, Zc cls d o → (∃ vs, o.data = .fields vs) → H' a = none → D.rt v (upd H' a (.frz o (.own a))),
      bk := fun σ' H' => ∀ o, Zc cls d o → (∃ vs, o.data = .fields vs) → H' a = none → D.bk (σ'.set i none) (upd H' a (.frz o (.own a))),
      ct := fun σ' H' => ∀ o, Zc cls d o → (∃ vs, o.data = .fields vs) → H' a = none → D.ct (σ'.set i none) (upd H' a (.frz o (.own a))) } (σ.set i (some (.ref a))) H
section
variable {X : Cx} {x n : Str} {c : Value} {i : Nat} {body suite : List Stmt} {b₀ : Stmt} {np pos pos' : Pos} {tb : WX → TS} {ts : Addr → Value → Option Addr → TS}
theorem ps_try_keep (hs : X.stack = X.env :: X.outer) (hf : X.env.frame = some X.env.locals) (hex : X.ex = []) (hN : X.N.Nodup) (hi : X.N[i]? = some n) (hln : X.env.kindOf n = some .local) (hc : Names X x c)
    (hb : ∀ (W : WX) (pn : List (Addr × Obj)) (xe : Value → Shared → Prop), Takes (X.tr pn xe) W → PassesOwn (model X.prog X.w) X.A X.env xe → PSs (X.tr pn xe) body (tb W))
    (hsu : ∀ (a : Addr) (oe : Obj) (cls : Value) (d : Option Addr) (pn : List (Addr × Obj)), Zc cls d oe → (∃ vs, oe.data = .fields vs) → PSs (X.suite a ((a, oe) :: pn)) (b₀ :: suite) (ts a cls d)) :
    PS X (.Try body [.ExceptHandler (some (.Name x np)) (some n) (b₀ :: suite) pos'] [] [] pos) (fun D σ H => tb (wAsK X.K c i ts D) D σ H) := by
  refine ⟨fun pins s σ H D I h => ?_⟩
  have ok := I.ok
  have hfr : X.A.frames = some (X.env :: X.outer) := by rw [ok.frames, hs]
  have hloc : Loc X.env.scope n := .inl hln
  refine wpAny_Try_except ?_
  refine wpAny_mono ((hb (wAsK X.K c i ts D) (X.pn ++ pins) (fun e s₁ => wpAny (model X.prog X.w) X.A (noteFrame e X.env) (fun _ s₂ => wpAny (model X.prog X.w) X.A (setFlight e none) (fun _ s₃ =>
    wpAny (model X.prog X.w) X.A (handleBy e X.env [.ExceptHandler (some (.Name x np)) (some n) (b₀ :: suite) pos']) (SP X pins D) X.xe s₃) X.xe s₂) X.xe s₁) (fun u s' xx => ?_) PassesOwn.looking).run [] s σ H D (I.toTry _) h) (fun f s1 hsp => ?_) (fun e s1 he => he)
  · obtain ⟨a, B, sI, pins', σ', H', cls, d, rfl, J', nb, up, sky, na, os, ag, hb1, hyes⟩ := xx
    have J : Inv X pins σ' H' sI := J'.ofTry ok
    have sky' : Sky B (X.env :: X.outer) a (Zc cls d) X.env.locals s'.heap := by rw [← hs]; exact sky
    show wpAny (model X.prog X.w) X.A (noteFrame (.ref a) X.env) _ _ _
    refine Sky.land Zc.steady hfr hf sky' fun h3 fl3 up3 => ?_
    have J3 : Inv X pins σ' H' { s' with heap := h3 } := J.landed nb fl3.1 (up.trans up3) os ag
    obtain ⟨oe3, vs3, he3, hz3, hd3⟩ := fl3.there
    have notFr : ∀ {h : Heap} {o : Obj} {vs : Array Value}, h.FunFrames B (X.env :: X.outer) → h.get? a = some o → o.data = .fields vs → a ∉ frs (X.env :: X.outer) := fun {h o vs} ff e dd hm => by
      obtain ⟨_, o', e', hnf⟩ := ff.mem hm
      rw [e] at e'; cases e'
      exact hnf _ dd
    have nfr := notFr fl3.2.2.1 he3 hd3
    have nL : a ≠ X.env.locals := fun z => nfr (List.mem_filterMap.mpr ⟨X.env, List.mem_cons_self, by rw [hf, z]⟩)
    have nF : a ∉ X.fs := fun hm => by
      obtain ⟨e, he, q⟩ := List.mem_filterMap.mp hm
      exact nfr (List.mem_filterMap.mpr ⟨e, List.mem_cons_of_mem _ he, q⟩)
    have nB : B.get? a = none := fl3.2.1
    have nfs : a ∉ frs X.stack := by rw [hs]; exact nfr
    have h0 : X.s_0.heap.get? a = none := by
      cases e : X.s_0.heap.get? a with
      | none => rfl
      | some o =>
        obtain ⟨o', q⟩ := J.base.there a o e (by rw [hex]; exact fun z => nomatch z)
        have := nb a o' q nfs
        rw [nB] at this
        cases this
    have np' : ∀ p ∈ X.pn ++ pins, p.1 ≠ a := fun p hp z => by
      obtain ⟨e, _, h1, h2, _⟩ := J.pin p hp
      have : p.1 ∉ frs X.stack := fun hm => by
        rcases List.mem_cons.mp (J.stkSub _ hm) with y | y
        · exact h1 y
        · exact h2 y
      have := nb _ _ e this
      rw [z, nB] at this
      cases this
    have S3 := J3.suite he3 hd3 na nL nF
    refine wpAny_handleBy_cons (codeAny_handlers_test ?_) (by intro q; cases q)
    have LT : PySem.W.Looks (model X.prog X.w) h3 (typeOf (.ref a)) cls := fun A Q E s k q => wpAny_typeOf_ref (k _ _ he3) (by rw [hz3.1]; exact q)
    have LM := PySem.W.exm_one (M := model X.prog X.w) (J3.kIn) LT hb1
    have test : ∀ {Q : Value → Shared → Prop} {E : Value → Shared → Prop}, Q c { s' with heap := h3 } → wpAny (model X.prog X.w) (X.A.mark (some (.ref a))) (eval (.Name x np) X.env) Q E { s' with heap := h3 } := fun {Q E} q => by
      obtain ⟨hg, hdbg, hm | ⟨hm, hv, hnn⟩⟩ := hc
      · exact ld_glob (X := X.suite a ((a, oe3) :: (X.pn ++ pins))) S3 hg hm q hdbg
      · exact ld_blt (X := X.suite a ((a, oe3) :: (X.pn ++ pins))) S3 hg hm hv q hnn hdbg
    refine test (LM.here ?_)
    refine codeAny_handlers_suite_as ?_
    refine HandSPX.lands_againZ fl3 fun h4 fl4 up4 => ?_
    have J4 : Inv X pins σ' H' { s' with heap := h4 } := J.landed nb fl4.1 ((up.trans up3).trans up4) os ag
    obtain ⟨oe4, vs4, he4, hz4, hd4⟩ := fl4.there
    have S4 := J4.suite he4 hd4 na nL nF
    refine store_ok (X := X.suite a ((a, oe4) :: (X.pn ++ pins))) (v := .ref a) S4 hN hi hloc rfl (fun s5 S5 => ?_) (.inr hln)
    refine wpAny_mono ((hsu a oe4 cls d (X.pn ++ pins) hz4 ⟨_, hd4⟩).run [] s5 _ H' _ S5 (hyes a na)) (fun f s6 hsp => ?_) (fun _ _ z => False.elim z)
    have end_ : ∀ {σ6 : L2.St} {H6 : Hp} {Q : Shared → Prop}, Inv (X.suite a ((a, oe4) :: (X.pn ++ pins))) [] σ6 H6 s6 → (H6 a = none → ∀ s7, Inv X pins (σ6.set i none) (upd H6 a (.frz oe4 (.own a))) s7 → Q s7) →
        wpAny (model X.prog X.w) X.A (do bindName X.env n .none; unbindBehindTheSuite X.env n pos') (fun _ s7 => Q s7) X.xe s6 := fun {σ6 H6 Q} S6 hq => by
      obtain ⟨g1, g2, _⟩ := S6.pin (a, oe4) (List.mem_append_left _ List.mem_cons_self)
      exact gone_ok (track (S6.unsuite ok) g1 hd4 g2 h0 nL np') hN hi hln (hq g2)
    cases f with
    | next =>
      obtain ⟨σ6, H6, S6, q6⟩ := hsp
      exact end_ S6 fun g s7 J7 => ⟨_, _, J7, q6 oe4 hz4 ⟨_, hd4⟩ g⟩
    | brk =>
      obtain ⟨σ6, H6, S6, q6⟩ := hsp
      exact end_ S6 fun g s7 J7 => ⟨_, _, J7, q6 oe4 hz4 ⟨_, hd4⟩ g⟩
    | cont =>
      obtain ⟨σ6, H6, S6, q6⟩ := hsp
      exact end_ S6 fun g s7 J7 => ⟨_, _, J7, q6 oe4 hz4 ⟨_, hd4⟩ g⟩
    | ret u =>
      obtain ⟨v6, σ6, H6, S6, r6, q6⟩ := hsp
      exact end_ S6 fun g s7 J7 => ⟨_, _, _, J7, r6, q6 oe4 hz4 ⟨_, hd4⟩ g⟩
  · cases f with
    | next =>
      obtain ⟨σ', H', J', q⟩ := hsp
      exact wpAny_execs_nil ⟨σ', H', J'.ofTry ok, q⟩
    | brk =>
      obtain ⟨σ', H', J', q⟩ := hsp
      exact ⟨σ', H', J'.ofTry ok, q⟩
    | cont =>
      obtain ⟨σ', H', J', q⟩ := hsp
      exact ⟨σ', H', J'.ofTry ok, q⟩
    | ret u =>
      obtain ⟨v, σ', H', J', r, q⟩ := hsp
      exact ⟨v, σ', H', J'.ofTry ok, r, q⟩
end
theorem ExR.rep {K : PySem.W.Frag} {F : Hp} {C : Addr} {d : Option Addr} {ks : List Str} {vs : List D} (r : ExR K F d ks vs) {o : Obj} {fs : Array Value} {u : HO} (hz : Zc (.ref C) d o) (hd : o.data = .fields fs) : RepO K F (.exc C ks vs) (.frz o u) := by
  cases r with
  | no => exact .exc hz.1 hz.2 hd
  | fs h e r ne => exact .excF hz.1 hz.2 hd h e r ne
section
variable {X : Cy} {x n : Str} {c : Value} {i : Nat} {body suite : List Stmt} {b₀ : Stmt} {ρ : Rho} {μ : Mu} {E : En} {np pos pos' : Pos}
theorem w_tryAsG (i : Nat) (Ψ : Addr → List Str → List D → Rho → Mu → Prop) (hN : X.N.Nodup) (hi : X.N[i]? = some n) (hln : X.env.kindOf n = some .local) (hc : Names X x c)
    (hb : ∀ pn xe g, Ex X.g g → Tk ⟨X.c.tr pn xe, g⟩ Ψ → PassesOwn (model X.prog X.w) X.A X.env xe → wSs ⟨X.c.tr pn xe, g⟩ body ρ μ E)
    (hsu : ∀ C ks vs ρ' μ', Ψ C ks vs ρ' μ' → PySem.W.exmOne X.K (.ref C) c = some true ∧ ∀ a oe pn, wSs ⟨X.c.suite a ((a, oe) :: pn), X.g⟩ (b₀ :: suite) (ρ'.set i (some (.ptr a))) μ'
      { nx := fun ρ2 μ2 => E.nx (ρ2.set i none) ((a, .exc C ks vs) :: μ2), rt := fun d μ2 => E.rt d ((a, .exc C ks vs) :: μ2), bk := fun ρ2 μ2 => E.bk (ρ2.set i none) ((a, .exc C ks vs) :: μ2), ct := fun ρ2 μ2 => E.ct (ρ2.set i none) ((a, .exc C ks vs) :: μ2) })
    (hstk : X.stack = X.env :: X.outer := by rfl) (hf : X.env.frame = some X.env.locals := by rfl) (hex : X.ex = [] := by rfl) :
    wS X (.Try body [.ExceptHandler (some (.Name x np)) (some n) (b₀ :: suite) pos'] [] [] pos) ρ μ E := fun F σ H hs sl D kt => by
  refine ss_of (ps_try_keep (X := X.c) (np := np) (pos := pos) (pos' := pos') (tb := fun W D σ H => ∀ pn xe, Takes (X.c.tr pn xe) W → PassesOwn (model X.prog X.w) X.A X.env xe → sSs ⟨X.c.tr pn xe, F⟩ body D σ H)
    (ts := fun a cls d D σ H => ∀ oe pn, Zc cls d oe → (∃ vs, oe.data = .fields vs) → sSs ⟨X.c.suite a ((a, oe) :: pn), X.g⟩ (b₀ :: suite) D σ H) hstk hf hex hN hi hln hc
    (fun W pn xe tk po => ⟨fun pins s σ H D I h => h pn xe tk po pins s I⟩) (fun a oe cls d pn hz hd => ⟨fun pins s σ H D I h => h oe pn hz hd pins s I⟩)) ?_
  intro pn xe tk po
  refine hb pn xe F hs.gr ⟨_, tk, ?_⟩ po F σ H (hs.regr (Ex.refl F)) sl D ⟨fun F1 H1 σ1 ρ1 μ1 q e1 hs1 sl1 => kt.nx F1 H1 σ1 ρ1 μ1 q e1 (hs1.regr (hs.gr.trans e1)) sl1, fun v F1 H1 d μ1 q e1 hs1 r1 => kt.rt v F1 H1 d μ1 q e1 (hs1.regr (hs.gr.trans e1)) r1,
    fun F1 H1 σ1 ρ1 μ1 q e1 hs1 sl1 => kt.bk F1 H1 σ1 ρ1 μ1 q e1 (hs1.regr (hs.gr.trans e1)) sl1, fun F1 H1 σ1 ρ1 μ1 q e1 hs1 sl1 => kt.ct F1 H1 σ1 ρ1 μ1 q e1 (hs1.regr (hs.gr.trans e1)) sl1⟩
  intro C d ks vs F1 σ1 H1 ρ1 μ1 q xr hs1 sl1
  obtain ⟨hm, hsu⟩ := hsu C ks vs ρ1 μ1 q
  have e01 : Ex F F1 := hs1.gr
  refine ⟨hm, fun a na oe pn' hz hd => hsu a oe pn' F1 (σ1.set i (some (.ref a))) H1 (hs1.regr (hs.gr.trans e01)) (sl1.set i (.ptr a)) _ ⟨?_, ?_, ?_, ?_⟩⟩
  · rintro F2 H2 σ2 ρ2 μ2 q2 e2 hs2 sl2 o hz' ⟨fs, hd'⟩ na2
    exact kt.nx F2 _ _ _ _ q2 (e01.trans e2) (hs2.cell na2 ((xr.mono e2).rep hz' hd')) (sl2.wipe i)
  · rintro v F2 H2 d2 μ2 q2 e2 hs2 r2 o hz' ⟨fs, hd'⟩ na2
    exact kt.rt v F2 _ _ _ q2 (e01.trans e2) (hs2.cell na2 ((xr.mono e2).rep hz' hd')) r2
  · rintro F2 H2 σ2 ρ2 μ2 q2 e2 hs2 sl2 o hz' ⟨fs, hd'⟩ na2
    exact kt.bk F2 _ _ _ _ q2 (e01.trans e2) (hs2.cell na2 ((xr.mono e2).rep hz' hd')) (sl2.wipe i)
  · rintro F2 H2 σ2 ρ2 μ2 q2 e2 hs2 sl2 o hz' ⟨fs, hd'⟩ na2
    exact kt.ct F2 _ _ _ _ q2 (e01.trans e2) (hs2.cell na2 ((xr.mono e2).rep hz' hd')) (sl2.wipe i)
theorem w_tryAs (i : Nat) (Ψ : Addr → List Str → List D → Rho → Mu → Prop) (hN : X.N.Nodup) (hi : X.N[i]? = some n) (hln : X.env.kindOf n = some .local) (hc : Names X x c)
    (hb : ∀ pn xe g, Tk ⟨X.c.tr pn xe, g⟩ Ψ → PassesOwn (model X.prog X.w) X.A X.env xe → wSs ⟨X.c.tr pn xe, g⟩ body ρ μ E)
    (hsu : ∀ C ks vs ρ' μ', Ψ C ks vs ρ' μ' → PySem.W.exmOne X.K (.ref C) c = some true ∧ ∀ a oe pn, wSs ⟨X.c.suite a ((a, oe) :: pn), X.g⟩ (b₀ :: suite) (ρ'.set i (some (.ptr a))) μ'
      { nx := fun ρ2 μ2 => E.nx (ρ2.set i none) ((a, .exc C ks vs) :: μ2), rt := fun d μ2 => E.rt d ((a, .exc C ks vs) :: μ2), bk := fun ρ2 μ2 => E.bk (ρ2.set i none) ((a, .exc C ks vs) :: μ2), ct := fun ρ2 μ2 => E.ct (ρ2.set i none) ((a, .exc C ks vs) :: μ2) })
    (hstk : X.stack = X.env :: X.outer := by rfl) (hf : X.env.frame = some X.env.locals := by rfl) (hex : X.ex = [] := by rfl) :
    wS X (.Try body [.ExceptHandler (some (.Name x np)) (some n) (b₀ :: suite) pos'] [] [] pos) ρ μ E :=
  w_tryAsG i Ψ hN hi hln hc (fun pn xe g _ => hb pn xe g) hsu hstk hf hex
end
section
variable {X : Cy} {x n : Str} {c : Value} {body suite : List Stmt} {b₀ : Stmt} {ρ : Rho} {μ : Mu} {E : En} {np pos pos' : Pos}
/-- .. where the slots are, when it is raised, as they were ahead of the body -/
theorem w_try1 (i : Nat) (Ψ : XW) (hN : X.N.Nodup) (hi : X.N[i]? = some n) (hln : X.env.kindOf n = some .local) (hc : Names X x c)
    (hb : ∀ pn xe g, Tk ⟨X.c.tr pn xe, g⟩ (fun C ks vs ρ' μ' => ρ' = ρ ∧ Ψ C ks vs μ') → PassesOwn (model X.prog X.w) X.A X.env xe → wSs ⟨X.c.tr pn xe, g⟩ body ρ μ E)
    (hsu : ∀ C ks vs μ', Ψ C ks vs μ' → PySem.W.exmOne X.K (.ref C) c = some true ∧ ∀ a oe pn, wSs ⟨X.c.suite a ((a, oe) :: pn), X.g⟩ (b₀ :: suite) (ρ.set i (some (.ptr a))) μ'
      { nx := fun ρ2 μ2 => E.nx (ρ2.set i none) ((a, .exc C ks vs) :: μ2), rt := fun d μ2 => E.rt d ((a, .exc C ks vs) :: μ2), bk := fun ρ2 μ2 => E.bk (ρ2.set i none) ((a, .exc C ks vs) :: μ2), ct := fun ρ2 μ2 => E.ct (ρ2.set i none) ((a, .exc C ks vs) :: μ2) })
    (hstk : X.stack = X.env :: X.outer := by rfl) (hf : X.env.frame = some X.env.locals := by rfl) (hex : X.ex = [] := by rfl) :
    wS X (.Try body [.ExceptHandler (some (.Name x np)) (some n) (b₀ :: suite) pos'] [] [] pos) ρ μ E :=
  w_tryAs i (fun C ks vs ρ' μ' => ρ' = ρ ∧ Ψ C ks vs μ') hN hi hln hc hb (fun C ks vs ρ' μ' ⟨hρ, h⟩ => by subst hρ; exact hsu C ks vs μ' h) hstk hf hex
/-- .. with what stood still ahead of the body -/
theorem w_try1G (i : Nat) (Ψ : XW) (hN : X.N.Nodup) (hi : X.N[i]? = some n) (hln : X.env.kindOf n = some .local) (hc : Names X x c)
    (hb : ∀ pn xe g, Ex X.g g → Tk ⟨X.c.tr pn xe, g⟩ (fun C ks vs ρ' μ' => ρ' = ρ ∧ Ψ C ks vs μ') → PassesOwn (model X.prog X.w) X.A X.env xe → wSs ⟨X.c.tr pn xe, g⟩ body ρ μ E)
    (hsu : ∀ C ks vs μ', Ψ C ks vs μ' → PySem.W.exmOne X.K (.ref C) c = some true ∧ ∀ a oe pn, wSs ⟨X.c.suite a ((a, oe) :: pn), X.g⟩ (b₀ :: suite) (ρ.set i (some (.ptr a))) μ'
      { nx := fun ρ2 μ2 => E.nx (ρ2.set i none) ((a, .exc C ks vs) :: μ2), rt := fun d μ2 => E.rt d ((a, .exc C ks vs) :: μ2), bk := fun ρ2 μ2 => E.bk (ρ2.set i none) ((a, .exc C ks vs) :: μ2), ct := fun ρ2 μ2 => E.ct (ρ2.set i none) ((a, .exc C ks vs) :: μ2) })
    (hstk : X.stack = X.env :: X.outer := by rfl) (hf : X.env.frame = some X.env.locals := by rfl) (hex : X.ex = [] := by rfl) :
    wS X (.Try body [.ExceptHandler (some (.Name x np)) (some n) (b₀ :: suite) pos'] [] [] pos) ρ μ E :=
  w_tryAsG i (fun C ks vs ρ' μ' => ρ' = ρ ∧ Ψ C ks vs μ') hN hi hln hc hb (fun C ks vs ρ' μ' ⟨hρ, h⟩ => by subst hρ; exact hsu C ks vs μ' h) hstk hf hex
end
/-! ### isinstance of a refusal that was caught -/
theorem isi_exc {X : Cx} {pins : List (Addr × Obj)} {σ : L2.St} {H : Hp} {s : Shared} {C a : Addr} {o : Obj} {u : HO} {fs : Array Value} (I : Inv X pins σ H s) (c : ExcC X.K C) (ha : H a = some (.frz o u)) (h1 : o.cls = .ref C) (h2 : o.dict = none) (h3 : o.data = .fields fs) :
    PySem.W.InstAt s.heap a o C none := by
  obtain ⟨oc, od, oda, osl⟩ := o
  dsimp only at h1 h2 h3
  subst h1 h2 h3
  exact ⟨(I.hok a _ ha).1, rfl, rfl, trivial⟩
section
variable {X : Cy} {μ : Mu} {Φ : D → Mu → Prop} {C a : Addr}
/-- classes as data -/
inductive ClsD : D → Value → Prop where
  | ty (n : String) : ClsD (.ty n) (.type n)
  | own (C : Addr) : ClsD (.ptr C) (.ref C)
theorem ClsD.v {K : PySem.W.Frag} {F : Hp} {d : D} {u : Value} (h : ClsD d u) {v : V} (r : Rep K F v d) : ClsV v u := by
  cases h with
  | ty n => cases r; exact .ty n
  | own C => cases r; exact .own C
theorem ClsD.vs {K : PySem.W.Frag} {F : Hp} : ∀ {ds : List D} {us : List Value}, Paired ClsD ds us → ∀ {vs : List V}, Reps K F vs ds → Paired ClsV vs us
  | _, _, .nil, _, .nil => .nil
  | _, _, .cons h t, _, .cons r rr => .cons (h.v r) (ClsD.vs t rr)
theorem kit_cls_ref {K : PySem.W.Frag} {R Y : Addr} {b : Bool} (hc : PySem.W.isClsIn K Y = true) (ht : PySem.W.typeIn K (.ref Y) = some (.type "type")) (h : PySem.W.subIn K (.ref R) (.ref Y) = some b) : PySem.W.kitCls K (.ref R) (.ref Y) = some b := by
  have e2 : ((PySem.W.clsIn K Y).isSome && PySem.W.typeIn K (.ref Y) == some (.type "type")) = true := by
    have hc' : (PySem.W.clsIn K Y).isSome = true := hc
    rw [hc', ht] <;> rfl
  show (if ((PySem.W.clsIn K Y).isSome && PySem.W.typeIn K (.ref Y) == some (.type "type")) = true then PySem.W.subIn K (.ref R) (.ref Y) else none) = some b
  rw [if_pos e2]
  exact h
theorem kit_ref {K : PySem.W.Frag} {R Y : Addr} {b : Bool} (hs : PySem.W.subIn K (.ref R) (.ref R) = some true) (hc : PySem.W.isClsIn K Y = true) (ht : PySem.W.typeIn K (.ref Y) = some (.type "type")) (h : PySem.W.subIn K (.ref R) (.ref Y) = some b) : PySem.W.kitOne K (.ref R) (.ref Y) = some b := by
  unfold PySem.W.kitOne
  by_cases e : ((Value.ref R == Value.ref Y) = true)
  · rw [if_pos e]
    have e' : Value.ref R = Value.ref Y := beq_iff_eq.mp e
    cases e'
    exact hs.symm.trans h
  · rw [if_neg e]
    exact kit_cls_ref hc ht h
theorem kit_typ {K : PySem.W.Frag} {R : Addr} {T : String} {b : Bool} (hm : PySem.W.kitMeta T = true) (h : PySem.W.subIn K (.ref R) (.type T) = some b) : PySem.W.kitOne K (.ref R) (.type T) = some b := by
  unfold PySem.W.kitOne
  rw [if_neg (show ¬ ((Value.ref R == Value.type T) = true) from fun e => by cases beq_iff_eq.mp e)]
  show (if PySem.W.kitMeta T = true then PySem.W.subIn K (.ref R) (.type T) else none) = some b
  rw [if_pos hm]
  exact h
theorem exm_of {K : PySem.W.Frag} {R Y : Addr} {b : Bool} (h1 : PySem.W.subIn K (.ref Y) (.type "BaseException") = some true) (hc : PySem.W.isClsIn K Y = true) (ht : PySem.W.typeIn K (.ref Y) = some (.type "type")) (h : PySem.W.subIn K (.ref R) (.ref Y) = some b) : PySem.W.exmOne K (.ref R) (.ref Y) = some b := by
  have e1 : (PySem.W.subIn K (.ref Y) (.type "BaseException") == some true) = true := by rw [h1] <;> rfl
  show (if (PySem.W.subIn K (.ref Y) (.type "BaseException") == some true) = true then PySem.W.kitCls K (.ref R) (.ref Y) else none) = some b
  rw [if_pos e1]
  exact kit_cls_ref hc ht h
theorem ka_no {K : PySem.W.Frag} {t c : Value} {cs : List Value} {r : Bool} (h : PySem.W.kitOne K t c = some false) (hr : PySem.W.kitAny K t cs = some r) : PySem.W.kitAny K t (c :: cs) = some r := kitAny_cons h (fun _ => hr) (fun z => nomatch z)
theorem ka_yes {K : PySem.W.Frag} {t c : Value} {cs : List Value} (h : PySem.W.kitOne K t c = some true) : PySem.W.kitAny K t (c :: cs) = some true := kitAny_cons h (fun z => nomatch z) (fun _ => rfl)
theorem c_isE {c : D} {cv : Value} {b : Bool} (m : Nat) (hm : μ[m]? = some (a, .exc C [] [])) (hC : ExcC X.K C) (hc : ClsD c cv) (hk : PySem.W.kitOne X.K (.ref C) cv = some b) (k : Φ (.bl b) μ) : wCl X (.builtin "isinstance") [.ptr a, c] μ Φ := by
  intro F H xs hs r1 Q kt pins s σ us I rv
  cases r1 with
  | cons r rr =>
  cases rr with
  | cons r2 rr =>
  cases rr
  cases r
  obtain ⟨u1, u2, rfl, ru1, ru2⟩ := vals2 rv
  cases (show u1 = Value.ref a from ru1)
  have e2 := (hc.v r2).eq ru2
  subst e2
  obtain ⟨_, u, hu, ro⟩ := hs.at_ hm
  cases ro with
  | exc h1 h2 h3 => exact PySem.W.kia_one (PySem.W.handS_kitx_exc hC.hg hC.hk hC.hs hC.hd hC.ha hC.hn hC.ht hC.hm) I.kIn (isi_exc I hC hu h1 h2 h3) hk (fun z => nomatch z) fun tk => ⟨.bl b, H, I.tok tk, rfl, kt.now k hs (.bl b)⟩
  | excF h1 h2 h3 h4 h5 h6 ne => exact absurd rfl ne
theorem c_isET {cs : List D} {us : List Value} {b : Bool} (m : Nat) (hm : μ[m]? = some (a, .exc C [] [])) (hC : ExcC X.K C) (hc : Paired ClsD cs us) (hk : PySem.W.kitAny X.K (.ref C) us = some b) (k : Φ (.bl b) μ) : wCl X (.builtin "isinstance") [.ptr a, .tup cs] μ Φ := by
  intro F H xs hs r1 Q kt pins s σ ws I rv
  cases r1 with
  | cons r rr =>
  cases rr with
  | cons r2 rr =>
  cases rr
  cases r
  cases r2 with
  | tup g rs =>
  obtain ⟨u1, u2, rfl, ru1, ru2⟩ := vals2 rv
  cases (show u1 = Value.ref a from ru1)
  rename_i tp vs
  cases (show u2 = Value.ref tp from ru2)
  obtain ⟨_, its, rvs, oo, h1, h2, n, h3⟩ := (show ObjOk X.prog X.w H s.heap tp (.tup vs) from I.hok tp _ (hs.ex _ _ g))
  have e3 := ClsV.all (ClsD.vs hc rs) rvs
  subst e3
  obtain ⟨oc, od, dt, sl⟩ := oo
  simp only at h2 h3
  subst h2 h3
  obtain ⟨_, u, hu, ro⟩ := hs.at_ hm
  cases ro with
  | exc g1 g2 g3 => exact PySem.W.kia_tup (PySem.W.handS_kitx_exc hC.hg hC.hk hC.hs hC.hd hC.ha hC.hn hC.ht hC.hm) I.kIn (isi_exc I hC hu g1 g2 g3) h1 hk (fun z => nomatch z) fun tk => ⟨.bl b, H, I.tok tk, rfl, kt.now k hs (.bl b)⟩
  | excF h1 h2 h3 h4 h5 h6 ne => exact absurd rfl ne
end
end Oc

/-! Own layer: sorted rows into a cell, the order of rows, sums of powers of two. -/
namespace Oc
open PySem PySem.Spec L2
open Evl (Ex)
section
variable {X : Cy} {μ : Mu} {Φ : D → Mu → Prop}
theorem c_sortedRP {ds : List D} (hu : X.c.A.units + 64 < cLine) (hy : ∀ d ∈ ds, Ly d 8) (hal : ∀ d ∈ ds, ∀ e ∈ ds, PySem.W.alike d.py e.py = true) (hk : ∀ d ∈ ds, ∃ x r, d.py = .tuple (x :: r))
    (k : ∀ (ds' : List D) (q : Addr), ds'.Perm ds → ds'.Pairwise (fun b c => PySem.W.dataLt c.py b.py = false) → Φ (.ptr q) ((q, .lst ds') :: μ)) : wCl X (.builtin "sorted") [.lst ds] μ Φ :=
  wcl_of (cr_sortedR hu) fun F H vs hs r1 Q kt => by
  cases r1 with
  | cons r rr =>
    cases rr
    cases r with
    | lst g r =>
      rename_i a xs
      have zips : ∀ {xs : List V} {ds : List D}, Reps X.K F xs ds → ∃ zs : List (V × D), zs.map Prod.fst = xs ∧ zs.map Prod.snd = ds ∧ ∀ z ∈ zs, Rep X.K F z.1 z.2 := fun {xs ds} r => by
        induction ds generalizing xs with
        | nil => cases r; exact ⟨[], rfl, rfl, fun z hz => (nomatch hz)⟩
        | cons d ds ih =>
          cases r with
          | cons r rr =>
            obtain ⟨zs, h1, h2, h3⟩ := ih rr
            refine ⟨(_, d) :: zs, by rw [List.map_cons, h1], by rw [List.map_cons, h2], fun z hz => ?_⟩
            rcases List.mem_cons.mp hz with rfl | hz
            · exact r
            · exact h3 z hz
      obtain ⟨zs, rfl, rfl, hz⟩ := zips r
      have hm : ∀ z ∈ zs, z.2 ∈ zs.map Prod.snd := fun z hz => List.mem_map.mpr ⟨z, hz, rfl⟩
      have back : ∀ {F1 : Hp} (l : List (V × D)), (∀ z ∈ l, Rep X.K F1 z.1 z.2) → Reps X.K F1 (l.map Prod.fst) (l.map Prod.snd) := fun {F1} l h => by
        induction l with
        | nil => exact .nil
        | cons z l ih => exact .cons (h z List.mem_cons_self) (ih fun y hy => h y (List.mem_cons_of_mem _ hy))
      refine ⟨_, zs, rfl, Evl.sq_of (hs.ex _ _ g), fun z hz' => rep_py hs.ex (hz z hz') (hy _ (hm z hz')).st, ?_, ?_, fun z hz' => (hy _ (hm z hz')).dp, fun zs' q hp hs' hq => ?_⟩
      · intro d hd d' hd'
        obtain ⟨z, hz1, rfl⟩ := List.mem_map.mp hd
        obtain ⟨z', hz2, rfl⟩ := List.mem_map.mp hd'
        exact hal _ (hm z hz1) _ (hm z' hz2)
      · refine .inl fun d hd => ?_
        obtain ⟨z, hz1, rfl⟩ := List.mem_map.mp hd
        exact hk _ (hm z hz1)
      · exact kt _ _ _ _ _ (k (zs'.map Prod.snd) q (hp.map _) (List.pairwise_map.mpr hs')) (Ex.refl F) (hs.cell hq (.lst (back zs' fun z hz1 => hz z (hp.mem_iff.mp hz1)))) (.ptr q)
end
/-! the order of rows is one -/
theorem row_tri : ∀ u v : List Nat, u = v ∨ PyProof.Rows.lexLt PyProof.Rows.itemOrd (PySem.W.keyToksAll (rowTk u)) (PySem.W.keyToksAll (rowTk v)) = true ∨ PyProof.Rows.lexLt PyProof.Rows.itemOrd (PySem.W.keyToksAll (rowTk v)) (PySem.W.keyToksAll (rowTk u)) = true
  | [], [] => .inl rfl
  | [], b :: v => .inr (.inl (by
      show PyProof.Rows.lexLt PyProof.Rows.itemOrd (PySem.W.keyToksAll (D.pys [])) (PySem.W.keyToksAll (D.pys (D.int b :: v.map fun a : Nat => D.int a))) = true
      simp only [D.pys, D.py, PySem.W.keyToksAll, PySem.W.keyToks]
      rfl))
  | a :: u, [] => .inr (.inr (by
      show PyProof.Rows.lexLt PyProof.Rows.itemOrd (PySem.W.keyToksAll (D.pys [])) (PySem.W.keyToksAll (D.pys (D.int a :: u.map fun a : Nat => D.int a))) = true
      simp only [D.pys, D.py, PySem.W.keyToksAll, PySem.W.keyToks]
      rfl))
  | a :: u, b :: v => by
    rcases Nat.lt_trichotomy a b with h | h | h
    · exact .inr (.inl (lt_head u v h))
    · subst h
      rcases row_tri u v with h | h | h
      · exact .inl (by rw [h])
      · exact .inr (.inl (by rw [lt_tail]; exact h))
      · exact .inr (.inr (by rw [lt_tail]; exact h))
    · exact .inr (.inr (lt_head v u h))
abbrev rwL (a b : List Nat) : Prop := PySem.W.dataLt (rwD b).py (rwD a).py = false
theorem rwL_anti {a b : List Nat} (h1 : rwL a b) (h2 : rwL b a) : a = b := by
  unfold rwL at h1 h2
  simp only [D.py] at h1 h2
  rw [PySem.W.dataLt_tuple] at h1 h2
  rcases row_tri a b with h | h | h
  · exact h
  · rw [h] at h2; cases h2
  · rw [h] at h1; cases h1
theorem rows_uniq : ∀ {A B : List (List Nat)}, A.Perm B → A.Pairwise rwL → B.Pairwise rwL → A = B
  | [], B, hp, _, _ => (List.nil_perm.mp hp).symm ▸ rfl
  | a :: A, [], hp, _, _ => by have := hp.length_eq; cases this
  | a :: A, b :: B, hp, ha, hb => by
    have hab : a = b := by
      rcases List.mem_cons.mp (hp.mem_iff.mp List.mem_cons_self) with h | h
      · exact h
      · rcases List.mem_cons.mp (hp.symm.mem_iff.mp List.mem_cons_self) with h' | h'
        · exact h'.symm
        · exact rwL_anti (List.rel_of_pairwise_cons ha h') (List.rel_of_pairwise_cons hb h)
    subst hab
    rw [rows_uniq (List.Perm.cons_inv hp) ha.of_cons hb.of_cons]
/-! sums of powers of two -/
def sumS (q : Nat → Bool) (k : Nat) : Nat := (((List.range k).filter q).map fun o => 2 ^ o).sum
theorem sum_bit (q : Nat → Bool) : ∀ k, sumS q k < 2 ^ k ∧ ∀ j, (sumS q k).testBit j = (decide (j < k) && q j)
  | 0 => ⟨by show 0 < 1; omega, fun j => by show (0 : Nat).testBit j = _; rw [Nat.zero_testBit]; simp⟩
  | k + 1 => by
    obtain ⟨h1, h2⟩ := sum_bit q k
    have e : sumS q (k + 1) = sumS q k + (if q k then 2 ^ k else 0) := by
      unfold sumS
      rw [List.range_succ, List.filter_append, List.map_append, List.sum_append]
      congr 1
      cases e : q k <;> simp [List.filter_cons, e]
    have hp : 2 ^ (k + 1) = 2 ^ k + 2 ^ k := by rw [Nat.pow_succ]; omega
    cases e2 : q k with
    | false =>
      rw [e2] at e
      simp only [Bool.false_eq_true, if_false, Nat.add_zero] at e
      rw [e]
      refine ⟨by omega, fun j => ?_⟩
      rw [h2]
      by_cases hj : j = k
      · subst hj; rw [e2]; simp
      · have : decide (j < k) = decide (j < k + 1) := by rw [decide_eq_decide]; omega
        rw [this]
    | true =>
      rw [e2] at e
      simp only [if_true] at e
      rw [e]
      refine ⟨by omega, fun j => ?_⟩
      have e3 : sumS q k + 2 ^ k = 2 ^ k ||| sumS q k := by
        have := Nat.two_pow_add_eq_or_of_lt h1 1
        rw [Nat.mul_one] at this
        omega
      rw [e3, Nat.testBit_or, Nat.testBit_two_pow, h2]
      by_cases hj : j = k
      · subst hj; rw [e2]; simp
      · have : decide (j < k) = decide (j < k + 1) := by rw [decide_eq_decide]; omega
        rw [this, show decide (k = j) = false from decide_eq_false fun h => hj h.symm, Bool.false_or]
/-- the lowest one taken away -/
theorem bit_less {b r : Nat} (h1 : b.testBit r = true) (h2 : ∀ j, j < r → b.testBit j = false) : 2 ^ r ≤ b ∧ ∀ j, (b - 2 ^ r).testBit j = (b.testBit j && decide (r ≠ j)) := by
  have hm : b % 2 ^ r = 0 := by
    refine Nat.eq_of_testBit_eq fun j => ?_
    rw [Nat.testBit_mod_two_pow, Nat.zero_testBit]
    by_cases hj : j < r
    · rw [h2 j hj, Bool.and_false]
    · rw [decide_eq_false hj, Bool.false_and]
  have ho : b / 2 ^ r % 2 = 1 := by
    rw [Nat.testBit_eq_decide_div_mod_eq] at h1
    exact of_decide_eq_true h1
  obtain ⟨q, hq⟩ : ∃ q, q = b / 2 ^ r / 2 := ⟨_, rfl⟩
  have e1 : b = 2 ^ r * (2 * q + 1) := by
    have h3 := Nat.div_add_mod b (2 ^ r)
    have h4 := Nat.div_add_mod (b / 2 ^ r) 2
    rw [hm, Nat.add_zero] at h3
    rw [ho, ← hq] at h4
    rw [h4, h3]
  have e2 : b - 2 ^ r = 2 ^ r * (2 * q) := by
    rw [e1, Nat.mul_add, Nat.mul_one, Nat.add_sub_cancel]
  refine ⟨by rw [e1, Nat.mul_add, Nat.mul_one]; exact Nat.le_add_left _ _, fun j => ?_⟩
  rw [e2]
  have e3 : 2 ^ r * (2 * q) = 2 ^ (r + 1) * q := by rw [Nat.pow_succ, Nat.mul_assoc]
  have e4 : b = 2 ^ (r + 1) * q + 2 ^ r := by rw [e1, Nat.mul_add, Nat.mul_one, e3]
  rw [e3]
  have a1 := Nat.testBit_two_pow_mul_add q (show 2 ^ r < 2 ^ (r + 1) from Nat.pow_lt_pow_right (by decide) (by omega)) j
  have a2 := Nat.testBit_two_pow_mul_add q (show 0 < 2 ^ (r + 1) from Nat.two_pow_pos _) j
  rw [Nat.add_zero] at a2
  rw [a2, e4, a1]
  by_cases hj : j < r + 1
  · rw [if_pos hj, if_pos hj, Nat.zero_testBit, Nat.testBit_two_pow]
    by_cases e : r = j <;> simp [e]
  · rw [if_neg hj, if_neg hj, decide_eq_true (show r ≠ j by omega), Bool.and_true]
end Oc

/-! Own layer: plain tuples (.tpl): tuples made by the text of which it is kept that their object has no dict of its own, so that their methods may be called. -/
namespace Oc
open PySem PySem.Spec L2
open Evl (Ex)
theorem rep_tpl {K : PySem.W.Frag} {F H : Hp} {v : V} {ds : List D} (e : Ex F H) (r : Rep K F v (.tpl ds)) : ∃ a xs, v = .ref a ∧ SqT K H a xs ∧ Reps K F xs ds := by
  cases r with
  | tpl g _ _ q => exact ⟨_, _, rfl, .inl (.inr ⟨_, e _ _ g⟩), q⟩
section
variable {X : Cy} {e a b c o : Expr} {es : List Expr} {ρ : Rho} {μ : Mu} {Φ : D → Mu → Prop} {d d1 d2 : D} {i j : Int} {pos p apos cpos : Pos}
/-! it is made -/
def rTupF (K : PySem.W.Frag) : List V → Hp → VK → Prop := fun xs H Q => ∃ p ys, xs = [.ref p] ∧ SqL K H p ys ∧ ∀ l o, H l = none → o.cls = Value.type "tuple" → o.dict = none → Q (.ref l) (upd H l (.frz o (.tup ys)))
theorem cr_tupF {X : Cx} : CallR X (.type "tuple") (rTupF X.K) := by
  intro pins s σ H xs us Q I r h
  obtain ⟨p, ys, rfl, hq, q⟩ := h
  obtain ⟨u, rfl, rx⟩ := vals1 r
  cases rx
  obtain ⟨its, r', pl, hz⟩ := I.list hq
  have hlen := r'.length
  refine call_tuple_list pl.isList (fun h' kp => ?_) (by simp only [List.size_toArray] <;> omega)
  have I1 : Inv X pins σ H { s with heap := h' } := I.kept (t' := s.toks) kp
  have I2 : Inv X pins σ (upd H h'.objs.size (.frz { cls := .type "tuple", data := .seq its.toArray } (.tup ys))) { s with heap := h'.push { cls := .type "tuple", data := .seq its.toArray } } :=
    I1.laid (t' := s.toks) (fun b o e => Heap.get?_push_of_some _ e) (Nat.le_refl _) (show ObjOk X.prog X.w _ _ _ (.frz _ (.tup ys)) from ⟨Heap.get?_push_size _ rfl, hz, its, r', PyProof.Rows.IsTup.new _ _⟩)
  exact ⟨.ref h'.objs.size, _, I2, rfl, q _ _ (I1.hok.fresh (Nat.le_refl _)) rfl rfl⟩
theorem c_tplL {ds : List D} (k : Φ (.tpl ds) μ) : wCl X (.type "tuple") [.lst ds] μ Φ := wcl_of cr_tupF fun F H xs hs r1 Q kt => by
  cases r1 with
  | cons r rr =>
    cases rr
    cases r with
    | lst g q =>
      refine ⟨_, _, rfl, Evl.sq_of (hs.ex _ _ g), fun p o hp hc hd => ?_⟩
      obtain ⟨s1, s2⟩ := hs.laid (u := .frz o (.tup _)) hp
      exact kt _ _ _ _ _ k s2 s1 (.tpl upd_same hc hd (q.mono s2))
theorem c_tplP {q : Addr} {ds : List D} (m : Nat) (hm : μ[m]? = some (q, .lst ds)) (k : Φ (.tpl ds) μ) : wCl X (.type "tuple") [.ptr q] μ Φ := wcl_of cr_tupF fun F H xs hs r1 Q kt => by
  cases r1 with
  | cons r rr =>
    cases rr
    cases r
    obtain ⟨xs, g, r⟩ := hs.lst hm
    refine ⟨_, _, rfl, Evl.sq_of g, fun p o hp hc hd => ?_⟩
    obtain ⟨s1, s2⟩ := hs.laid (u := .frz o (.tup _)) hp
    exact kt _ _ _ _ _ k s2 s1 (.tpl upd_same hc hd (r.mono s2))
/-! it is read -/
theorem ix_tplD {ds : List D} (n : Nat) (hn : i = (n : Int)) (hd : ds[n]? = some d) (k : Φ d μ) : wIx X (.tpl ds) (.int i) μ Φ := wix_of ix_tup fun F H x y hs r1 r2 Q kt => by
  subst hn
  cases r2
  obtain ⟨_, _, rfl, g, q⟩ := rep_tpl hs.ex r1
  obtain ⟨v, h1, h2⟩ := q.get hd
  exact ⟨_, _, _, v, rfl, rfl, g, atI_nat h1, kt.now k hs h2⟩
theorem c_lenTp {ds : List D} (k : Φ (.int ds.length) μ) : wCl X (.builtin "len") [.tpl ds] μ Φ := wcl_of call_len_seq fun F H xs hs r1 Q kt => by
  cases r1 with
  | cons r rr =>
    cases rr
    obtain ⟨_, _, rfl, g, q⟩ := rep_tpl hs.ex r
    rw [← q.length] at k
    exact ⟨_, _, rfl, .inr g, kt.now k hs (.int _)⟩
theorem o_inTp {w : V} {ds : List D} {ws : List V} (h1 : d.fl = some w) (h2 : D.fls ds = some ws) (k : Φ (.bl (inV w ws)) μ) : wOp X (compareOp .In) d (.tpl ds) μ Φ := wop_of op_in_seq fun F H u v hs r1 r2 Q kt => by
  have e1 := rep_fl r1 h1
  subst e1
  obtain ⟨_, _, rfl, g, q⟩ := rep_tpl hs.ex r2
  have e2 := rep_fls q h2
  subst e2
  exact ⟨_, _, rfl, .inr g, fl_flat h1, fls_flat h2, kt.now k hs (.bl _)⟩
theorem o_ninTp {w : V} {ds : List D} {ws : List V} (h1 : d.fl = some w) (h2 : D.fls ds = some ws) (k : Φ (.bl (!inV w ws)) μ) : wOp X (compareOp .NotIn) d (.tpl ds) μ Φ := wop_of op_notIn_seq fun F H u v hs r1 r2 Q kt => by
  have e1 := rep_fl r1 h1
  subst e1
  obtain ⟨_, _, rfl, g, q⟩ := rep_tpl hs.ex r2
  have e2 := rep_fls q h2
  subst e2
  exact ⟨_, _, rfl, .inr g, fl_flat h1, fls_flat h2, kt.now k hs (.bl _)⟩
/-! it is gone through -/
theorem wi_tpl {tg : Expr} {ΦI : List D → Mu → Prop} (h : wE X e ρ μ fun d μ1 => ∃ ds, d = .tpl ds ∧ ΦI ds μ1) : wI X tg e ρ μ ΦI := fun F σ H hs sl R kt =>
  si_of (pi_tup pe_s) (h F σ H hs sl _ fun v F1 H1 d μ1 ⟨ds, hd, q⟩ e1 hs1 r1 => by
    subst hd
    obtain ⟨a, xs, rfl, g, r⟩ := rep_tpl (Ex.refl _) r1
    refine ⟨a, rfl, ⟨xs, Evl.ex_t hs1.ex g⟩, kt _ ds F1 μ1 H1 q e1 hs1 fun i F' μ' H' e' hs' => ?_⟩
    have g' : SqT X.K H' a xs := Evl.ex_t hs'.ex (Evl.ex_t e' g)
    refine ⟨fun hi => ⟨xs, xs[i]'(by rw [r.length]; exact hi), g', List.getElem?_eq_getElem _⟩, fun hi => ⟨xs, g', by rw [r.length]; exact Nat.le_of_eq hi.symm⟩, fun x H2 d hy hd => ?_⟩
    obtain ⟨rfl, fy⟩ := hy
    obtain ⟨y, h1, h2⟩ := r.get hd
    cases (fy _ g').symm.trans h1
    exact ⟨F', Ex.refl _, hs', h2.mono e'⟩)
theorem wi_enumTp {tpos : Pos} {elts : List Expr} {kk : Nat} {ΦI : List D → Mu → Prop} (hm : X.mg "enumerate" = none) (h : wE X e ρ μ fun d μ1 => ∃ ds, d = .tpl ds ∧ ΦI (enumD ds) μ1) (hg : Gl X "enumerate" := by rfl) (hs : starEach [e] X.env = [(false, eval e X.env)] := by rfl) :
    wI X (.Tuple elts kk tpos) (.Call (.Name "enumerate" p) [e] [] pos) ρ μ ΦI := fun F σ H hh sl R kt =>
  si_of (pi_enumT hg hm (pa_cons pe_s pa_nil hs) hs) (h F σ H hh sl _ fun v F1 H1 d μ1 ⟨ds, hd, q⟩ e1 hs1 r1 => by
    subst hd
    obtain ⟨a, xs, rfl, g, r⟩ := rep_tpl (Ex.refl _) r1
    refine ⟨a, xs, rfl, Evl.ex_t hs1.ex g, kt _ _ F1 μ1 H1 q e1 hs1 fun i F' μ' H' e' hs' => ?_⟩
    have g' : SqT X.K H' a xs := Evl.ex_t hs'.ex (Evl.ex_t e' g)
    rw [enumD_len]
    refine ⟨fun hi => ⟨xs, xs[i]'(by rw [r.length]; exact hi), g', List.getElem?_eq_getElem _⟩, fun hi => ⟨xs, g', by rw [r.length]; exact hi⟩, fun x H2 d hy hd => ?_⟩
    obtain ⟨T, y, rfl, hT, rfl, fy⟩ := hy
    obtain ⟨x', hx', rfl⟩ := enumD_get hd
    obtain ⟨z, h1, h2⟩ := r.get hx'
    cases (fy _ g').symm.trans h1
    obtain ⟨g1, g2⟩ := hs'.laid (u := .tup [.int (i : Nat), y]) hT
    exact ⟨_, g2, g1, .tup upd_same (.cons (.int _) (.cons ((h2.mono e').mono g2) .nil))⟩)
/-! its methods -/
def IsPl (H : Hp) (x : V) : Prop := ∃ a o xs, x = .ref a ∧ H a = some (.frz o (.tup xs)) ∧ o.cls = Value.type "tuple" ∧ o.dict = none
def tBMT (r : V → List V → Hp → VK → Prop) (to : TE) (t : TA) : TE := fun σ H Q => to σ H fun x H1 => IsPl H1 x ∧ t σ H1 fun xs H2 => r x xs H2 Q
theorem pe_bmT {to : TE} {t : TA} {name : Str} {id : String} {r : V → List V → Hp → VK → Prop} (slot : Slot "tuple" name id) (hty : typeOf (.builtin id) = pure (.type "method_descriptor")) (hm : MtR X id r) (ho : PE X o to) (ha : PA X (e :: es) t)
    (hbase : attributeBase o name X.env (eval o X.env) = eval o X.env := by rfl)
    (hfew : ((backTo cpos (starEach (e :: es) X.env)).all (fun x => !x.1) && (backToKw cpos (keywordEach [] X.env)).all (fun x => x.1.isSome)
      && decide ((e :: es).length + ([] : List Keyword).length + (if ([] : List Keyword).isEmpty then 0 else 1) < 30)) = true := by rfl)
    (hline : (apos.endLine == cpos.line) = true := by rfl) (hs : starEach (e :: es) X.env = (false, eval e X.env) :: starEach es X.env := by rfl) (hplain : (backTo cpos (starEach es X.env)).any (·.1) = false := by rfl) :
    PE X (.Call (.Attribute o name apos) (e :: es) [] cpos) (tBMT r to t) := by
  refine ⟨fun pins s σ H Q I h => ?_⟩
  refine wpAny_Call_method_late hbase hfew hline rfl (thn (ho.run pins s σ H _ I h) fun v s1 ⟨x, H1, I1, r1, ty, q1⟩ => ?_)
  obtain ⟨a, ob, ys, rfl, hk, hc, hd⟩ := ty
  cases r1
  obtain ⟨hob, _⟩ := I1.hok a _ hk
  refine ⟨"tuple", id, PySem.F.plainAttrs_tuple, slot, hty, ⟨ob, hob, hc⟩, fun b e2 => (by cases e2; exact ⟨ob, hob, hd⟩), ?_⟩
  have hA := ha.run cpos pins s1 σ H1 _ I1 q1
  rw [hs] at hA ⊢
  refine Calls.callWith_builtin (by show (false || (backTo cpos (starEach es X.env)).any (·.1)) = false; rw [hplain] <;> rfl) (Calls.evalArgs_plain ?_)
  exact thn hA fun us s2 ⟨vs, H2, I2, r2, q2⟩ => hm pins s2 σ H2 (.ref a) vs _ us Q I2 rfl r2 q2
/-- t.index(k), t of ints -/
def rIdxT (K : PySem.W.Frag) : V → List V → Hp → VK → Prop := fun x xs H Q => ∃ p, ∃ ns : List Int, ∃ k : Int, x = .ref p ∧ xs = [.int k] ∧ SqT K H p (ns.map V.int) ∧ k ∈ ns ∧ Q (.int (ns.idxOf k : Nat)) H
theorem mt_idxT {X : Cx} : MtR X "tuple.index" (rIdxT X.K) := by
  intro pins s σ H x xs v us Q I rx rs h
  obtain ⟨p, ns, k, rfl, rfl, hq, hk, q⟩ := h
  cases rx
  obtain ⟨u, rfl, t, rfl⟩ := vals1 rs
  obtain ⟨its, r, pl, hz⟩ := I.tuple hq
  exact SeqAt.tuple_index_ints pl (Vals.ints r) hk ⟨.int _, H, I.tok _, ⟨_, rfl⟩, q⟩
theorem w_indexT (h : wE X o ρ μ fun d μ1 => ∃ ns : List Int, d = .tpl (ns.map D.int) ∧ wE X e ρ μ1 fun d2 μ2 => ∃ k : Int, d2 = .int k ∧ k ∈ ns ∧ Φ (.int (ns.idxOf k : Nat)) μ2)
    (hbase : attributeBase o "index" X.env (eval o X.env) = eval o X.env := by rfl)
    (hfew : ((backTo cpos (starEach [e] X.env)).all (fun x => !x.1) && (backToKw cpos (keywordEach [] X.env)).all (fun x => x.1.isSome)
      && decide (([e] : List Expr).length + ([] : List Keyword).length + (if ([] : List Keyword).isEmpty then 0 else 1) < 30)) = true := by rfl)
    (hline : (apos.endLine == cpos.line) = true := by rfl) (hs : starEach [e] X.env = (false, eval e X.env) :: starEach [] X.env := by rfl) :
    wE X (.Call (.Attribute o "index" apos) [e] [] cpos) ρ μ Φ := fun F σ H hh sl Q kt =>
  se_of (pe_bmT PySem.F.slot_tuple_index PySem.F.type_tuple_index mt_idxT pe_s (pa_cons pe_s pa_nil hs) hbase hfew hline hs rfl) (h F σ H hh sl _ fun u F1 H1 d μ1 ⟨ns, hd, q⟩ e1 hs1 r1 => by
    subst hd
    cases r1 with
    | tpl g hc hd rx =>
      have ev := reps_ints rx
      subst ev
      refine ⟨⟨_, _, _, rfl, hs1.ex _ _ g, hc, hd⟩, q F1 σ H1 hs1 (sl.mono e1) _ fun y F2 H2 d2 μ2 ⟨k, hd2, hk, q2⟩ e2 hs2 r2 => ?_⟩
      subst hd2
      cases r2
      exact ⟨_, ns, k, rfl, rfl, .inl (.inr ⟨_, hs2.ex _ _ (e2 _ _ g)⟩), hk, kt _ F2 H2 _ μ2 q2 (e1.trans e2) hs2 (.int _)⟩)
/-- a list made here that is a pair's first thing stands still behind e -/
theorem w_fzT1 (h : wE X e ρ μ fun d μ1 => ∃ s p ds μ2, d = .tup [.ptr p, s] ∧ μ1 = (p, .lst ds) :: μ2 ∧ Φ (.tup [.lst ds, s]) μ2) : wE X e ρ μ Φ := fun F σ H hs sl Q kt =>
  h F σ H hs sl Q fun v F1 H1 d μ1 q x1 hs1 r => by
    obtain ⟨s, p, ds, μ2, rfl, rfl, q⟩ := q
    obtain ⟨F2, x2, hs2, r2⟩ := hs1.freeze (i := 0) rfl
    refine kt _ F2 H1 _ _ q (x1.trans x2) hs2 ?_
    have r' := r.mono x2
    cases r' with
    | tup g rq =>
      cases rq with
      | cons ra rq =>
        cases ra
        exact .tup g (.cons r2 rq)
end
/-- a sign times a number to ten -/
theorem op_mulC10 {X : Cy} : OpR X (binaryOp .Mult) (fun x y H Q => ∃ (c v : Nat), x = .str ⟨#[c]⟩ ∧ y = .int (v : Int) ∧ v ≤ 10 ∧ Q (.str ⟨(List.replicate v c).toArray⟩) H) := by
  intro pins s σ H x y u w Q I rx ry h
  obtain ⟨c, v, rfl, rfl, hv, q⟩ := h
  obtain ⟨t, rfl⟩ := rx
  obtain ⟨t', rfl⟩ := ry
  by_cases h0 : v = 0
  · subst h0
    exact PySem.P.mul_str_none (by omega) (by omega) ⟨.str _, H, I.tok _, ⟨_, rfl⟩, q⟩
  have hv1 : 1 ≤ v ∧ v ≤ 10 := ⟨by omega, hv⟩
  clear hv h0
  have hl1 : (⟨#[c]⟩ : Str).length = 1 := rfl
  refine PySem.P.mul_str (by rw [decide_eq_false (by omega), decide_eq_false (by omega)]; rfl) (fun _ _ => by rw [hl1]; exact (match v, hv1 with
    | 1, _ => by decide
    | 2, _ => by decide
    | 3, _ => by decide
    | 4, _ => by decide
    | 5, _ => by decide
    | 6, _ => by decide
    | 7, _ => by decide
    | 8, _ => by decide
    | 9, _ => by decide
    | 10, _ => by decide)) (fun _ _ => by rw [hl1]; exact (match v, hv1 with
    | 1, _ => by decide
    | 2, _ => by decide
    | 3, _ => by decide
    | 4, _ => by decide
    | 5, _ => by decide
    | 6, _ => by decide
    | 7, _ => by decide
    | 8, _ => by decide
    | 9, _ => by decide
    | 10, _ => by decide)) ?_
  match v, hv1 with
  | 1, _ => rw [if_neg (by omega), if_pos (by rfl)]; exact ⟨.str _, H, I, ⟨_, rfl⟩, q⟩
  | 2, _ => rw [if_neg (by omega), if_neg (by rw [hl1]; decide)]; exact ⟨by show 2 ≤ sizeLine; decide, .str _, H, I.tok _, ⟨_, rfl⟩, q⟩
  | 3, _ => rw [if_neg (by omega), if_neg (by rw [hl1]; decide)]; exact ⟨by show 3 ≤ sizeLine; decide, .str _, H, I.tok _, ⟨_, rfl⟩, q⟩
  | 4, _ => rw [if_neg (by omega), if_neg (by rw [hl1]; decide)]; exact ⟨by show 4 ≤ sizeLine; decide, .str _, H, I.tok _, ⟨_, rfl⟩, q⟩
  | 5, _ => rw [if_neg (by omega), if_neg (by rw [hl1]; decide)]; exact ⟨by show 5 ≤ sizeLine; decide, .str _, H, I.tok _, ⟨_, rfl⟩, q⟩
  | 6, _ => rw [if_neg (by omega), if_neg (by rw [hl1]; decide)]; exact ⟨by show 6 ≤ sizeLine; decide, .str _, H, I.tok _, ⟨_, rfl⟩, q⟩
  | 7, _ => rw [if_neg (by omega), if_neg (by rw [hl1]; decide)]; exact ⟨by show 7 ≤ sizeLine; decide, .str _, H, I.tok _, ⟨_, rfl⟩, q⟩
  | 8, _ => rw [if_neg (by omega), if_neg (by rw [hl1]; decide)]; exact ⟨by show 8 ≤ sizeLine; decide, .str _, H, I.tok _, ⟨_, rfl⟩, q⟩
  | 9, _ => rw [if_neg (by omega), if_neg (by rw [hl1]; decide)]; exact ⟨by show 9 ≤ sizeLine; decide, .str _, H, I.tok _, ⟨_, rfl⟩, q⟩
  | 10, _ => rw [if_neg (by omega), if_neg (by rw [hl1]; decide)]; exact ⟨by show 10 ≤ sizeLine; decide, .str _, H, I.tok _, ⟨_, rfl⟩, q⟩
theorem o_mulC10 {X : Cy} {μ : Mu} {Φ : D → Mu → Prop} {c v : Nat} (hv : v ≤ 10) (k : Φ (.str ⟨(List.replicate v c).toArray⟩) μ) : wOp X (binaryOp .Mult) (.str ⟨#[c]⟩) (.int v) μ Φ := wop_of op_mulC10 fun F H x y hs r1 r2 Q kt => by
  cases r1
  cases r2
  exact ⟨c, v, rfl, rfl, hv, kt.now k hs (.str _)⟩
end Oc

/-! Own layer: a lambda without parameters, handed to a def that calls it; tables of code objects. -/
namespace Oc
open PySem PySem.Spec L2
open Evl (Ex)
open LamX (CodeO TabB LamS lamEnv lamCx)
section
variable {X : Cx} {pins : List (Addr × Obj)} {σ : L2.St} {H : Hp} {s : Shared}
/-- the lambda is made: its code object is new, or stands in the table -/
theorem lam_made {c Pt : Addr} {q : Str} {ps : Array Value} {pr : Arguments} {bd : Expr} {sc : Scope} {pos : Pos} {E Q : Value → Shared → Prop} (I : Inv X pins σ H s) (TB : TabB X.base X.mg c Pt) (hcode : X.env.code = .ref c) (hq : X.env.qual ++ "<lambda>" = q)
    (hP : H Pt = some (.tbl ps)) (ht : TriplesOk ps.toList) (ha : ∀ (p : Pos) (u : Value), codeAmong p ps.toList = some u → ∃ c0, u = .ref c0 ∧ H c0 = some (CodeO c0 q)) (hdef : defaultsOf pr X.env = ([], [])) (hfree : ∀ y ∈ sc.names, y.2 = .free → ∃ c0, X.env.cells.lookup y.1 = some c0)
    (k : ∀ (f c' : Addr) (pm ctv : Value) (H1 : Hp) (s' : Shared), Inv X pins σ H1 s' → (H1 = H ∨ (H c' = none ∧ H1 = upd (upd H Pt (.tbl (ps ++ #[rawInt pos.line, rawInt pos.col, .ref c']))) c' (CodeO c' q))) →
      s'.heap.get? f = some (PySem.W.kla_obj "<lambda>" q pr bd sc (cloFrom X.env.cells sc.names []) pm c' ctv) → H1 f = none → f ∉ frs X.stack → H1 c' = some (CodeO c' q) → Q (.ref f) s') : wpAny (model X.prog X.w) X.A (eval (.Lambda pr bd sc pos) X.env) Q E s := by
  subst hq
  refine PySem.W.kla_eval hdef ?_
  have tbS : s.heap.BuiltinsAt X.mg Pt := TB.bm.keeps I.bk
  have oP : s.heap.get? Pt = some { cls := .none, data := .fields ps } := I.hok Pt _ hP
  have off : ∀ b, s.heap.objs.size ≤ b → b ∉ frs X.stack := fun b hb hm => by
    rcases List.mem_cons.mp (I.stkSub _ hm) with z | z
    · have lt := I.lt
      rw [← z] at lt
      exact absurd (Nat.lt_of_lt_of_le lt hb) (Nat.lt_irrefl _)
    · exact I.nofs hb z
  rcases hc : codeAmong pos ps.toList with _ | u
  · refine PySem.W.kla_makeFunction (mg := X.mg) (c := c) (P := Pt) (ps := ps) (closure_ok hfree) I.ok.glob (I.mod.glob.keeps I.bk) hcode (TB.code.keeps I.bk) oP ht hc TB.gP tbS fun c' ctv h1 tk kp ge lt rc wr => ?_
    obtain ⟨c2, oc, vs, t, ec, hoc, hd, hv⟩ := rc
    cases ec
    have big : s.heap.objs.size ≤ h1.objs.size := Nat.le_trans ge (Nat.le_of_lt lt)
    have noC : H c' = none := I.hok.fresh ge
    have J := LamX.inv_table (t' := tk) (more := #[rawInt pos.line, rawInt pos.col, .ref c']) (h' := h1.push (PySem.W.kla_obj "<lambda>" (X.env.qual ++ "<lambda>") pr bd sc (cloFrom X.env.cells sc.names []) ((X.mg "__name__").getD .none) c' ctv)) I hP
      (fun b o hb e => Heap.get?_push_of_some _ (kp b o hb e)) (Heap.get?_push_of_some _ wr) ge ⟨oc, vs, t, Heap.get?_push_of_some _ hoc, hd, hv⟩
    refine k h1.objs.size c' ((X.mg "__name__").getD .none) ctv _ _ J (.inr ⟨noC, rfl⟩) (Heap.get?_push_size _ rfl) ?_ (off _ big) upd_same
    rw [upd_ne (Nat.ne_of_gt lt), upd_ne (Nat.ne_of_gt (Nat.lt_of_lt_of_le (Heap.lt_size oP) big))]
    exact I.hok.fresh big
  · obtain ⟨c', ec, hco⟩ := ha pos u hc
    subst ec
    refine PySem.W.kla_makeFunctionHit (mg := X.mg) (c := c) (P := Pt) (ps := ps) (closure_ok hfree) I.ok.glob (I.mod.glob.keeps I.bk) hcode (TB.code.keeps I.bk) oP ht hc tbS fun ctv h1 tk kp big => ?_
    have J : Inv X pins σ H { s with heap := h1.push (PySem.W.kla_obj "<lambda>" (X.env.qual ++ "<lambda>") pr bd sc (cloFrom X.env.cells sc.names []) ((X.mg "__name__").getD .none) c' ctv), toks := tk } := I.kept fun b o e => Heap.get?_push_of_some _ (kp b o e)
    exact k h1.objs.size c' ((X.mg "__name__").getD .none) ctv H _ J (.inl rfl) (Heap.get?_push_size _ rfl) (I.hok.fresh big) (off _ big) hco
end
/-- the table has grown, the code object stands still from now on -/
theorem Hs.lam {K : KF} {F H : Hp} {μ : Mu} (h : Hs K F μ H) {i : Nat} {Pt c' : Addr} {q : Str} {ps : Array Value} {a b : Nat} (hi : μ[i]? = some (Pt, .tab q)) (hP : H Pt = some (.tbl ps)) (t : TabP F q ps) (hn : H c' = none) :
    Hs K (upd F c' (CodeO c' q)) μ (upd (upd H Pt (.tbl (ps ++ #[rawInt a, rawInt b, .ref c']))) c' (CodeO c' q)) ∧ Ex F (upd F c' (CodeO c' q)) := by
  have nF : F c' = none := Evl.fresh_back h.ex hn
  have nP : F Pt = none := (h.at_ hi).1
  have e : Ex F (upd F c' (CodeO c' q)) := Ex.new nF
  have Pc : Pt ≠ c' := ne_of_none hP hn
  refine ⟨⟨fun b o z => ?_, h.nd, fun x o z => ?_, h.gr.trans e⟩, e⟩
  · by_cases hb : b = c'
    · subst hb
      rw [upd_same] at z ⊢
      exact z
    · rw [upd_ne hb] at z ⊢
      rw [upd_ne (ne_of_none z nP)]
      exact h.ex b o z
  · obtain ⟨h1, u, h2, h3⟩ := h.mu x o z
    have xc : x ≠ c' := ne_of_none h2 hn
    refine ⟨by rw [upd_ne xc]; exact h1, ?_⟩
    by_cases hx : x = Pt
    · subst hx
      obtain ⟨j, hj, ej⟩ := List.mem_iff_getElem.mp z
      have ej' : μ[j]? = some (x, o) := by rw [List.getElem?_eq_getElem hj, ej]
      have ij := nodup_get h.nd hi ej'
      subst ij
      rw [hi] at ej'
      cases ej'
      have eL : (ps ++ #[rawInt a, rawInt b, .ref c']).toList = ps.toList ++ [rawInt a, rawInt b, .ref c'] := by simp
      refine ⟨_, by rw [upd_ne xc, upd_same], .tab ⟨by rw [eL]; exact PySem.TriplesOk_snoc _ _ _ _ t.1, fun p u hu => ?_⟩⟩
      rw [eL] at hu
      rcases LamX.among_app (pos := ⟨a, b, a, b⟩) _ t.1 hu with w | w
      · obtain ⟨c0, e1, e2⟩ := t.2 p u w
        exact ⟨c0, e1, e _ _ e2⟩
      · exact ⟨c', w, upd_same⟩
    · exact ⟨u, by rw [upd_ne xc, upd_ne hx]; exact h2, h3.mono e⟩
/-! ### the lambda called, in the def that got it -/
/-- a call of the thing that stands in the i-th slot -/
theorem act_pe {X : Cx} {pins : List (Addr × Obj)} {σ : L2.St} {H : Hp} {s : Shared} {Ng : List Str} {qg a : Str} {sg sc : Scope} {g f c' : Addr} {cdg pm ctv : Value} {pr : Arguments} {bd : Expr} {k i : Nat} {pn : List (Addr × Obj)} {xe : Value → Shared → Prop} {W : WX} {p1 p2 : Pos}
    (I : Inv X pins σ H s) (L : LamS X.env.scope sc) (hf : s.heap.get? f = some (PySem.W.kla_obj "<lambda>" (X.env.qual ++ "<lambda>") pr bd sc (cloFrom X.env.cells sc.names []) pm c' ctv)) (hfn : H f = none) (hfr : f ∉ frs X.stack)
    (hbind : bindArgs (PySem.W.kla_fn "<lambda>" (X.env.qual ++ "<lambda>") pr bd sc (cloFrom X.env.cells sc.names []) pm (.ref c') ctv) ⟨[], []⟩ = pure []) (tk : Takes ((cxOf CX0 X.prog X.w X.K X.mg X.base Ng qg sg g cdg X.A X.stack s H E0).tr pn xe) W)
    (hr : Rm (k + 1) (X.A.deeper (PyProof.Rows.envOfC qg sg s.heap.objs.size g cdg))) (hN : Ng[i]? = some a) (hv : Vis sg a) (hd : (a == ("__debug__" : Str)) = false) (hcd : (a == ("__classdict__" : Str)) = false) :
    PE ((cxOf CX0 X.prog X.w X.K X.mg X.base Ng qg sg g cdg X.A X.stack s H E0).tr pn xe) (.Call (.Name a p1) [] [] p2) fun σZ HZ Q => σZ[i]? = some (some (.ref f)) ∧ HZ c' = some (CodeO c' (X.env.qual ++ "<lambda>")) ∧
      ∀ (A : Around) (outer : List Env) (t : Shared), Rm k (A.deeper (lamEnv X sc t.heap.objs.size f c')) → ∀ (pins2 : List (Addr × Obj)) (u : Shared), Inv (lamCx X A outer t HZ (fun cls d H' => W cls d σZ H') sc f c') pins2 σ HZ u →
        wpAny (model X.prog X.w) (A.deeper (lamEnv X sc t.heap.objs.size f c')) (eval bd (lamEnv X sc t.heap.objs.size f c')) (EP (lamCx X A outer t HZ (fun cls d H' => W cls d σZ H') sc f c') pins2 σ Q) (lamCx X A outer t HZ (fun cls d H' => W cls d σZ H') sc f c').xe u := by
  refine ⟨fun pz sz σZ HZ Q IZ h => ?_⟩
  obtain ⟨hslot, hco, go⟩ := h
  have nm := (pe_var (pos := p1) (i := i) hN hv hd hcd).run pz sz σZ HZ (fun v H1 => v = .ref f ∧ H1 = HZ) IZ ⟨.ref f, hslot, rfl, rfl⟩
  refine wpAny_Call_Name_kw (thn nm fun u t ⟨v, H1, J, rv, q1⟩ => ?_)
  obtain ⟨ev, eH⟩ := q1
  subst ev
  rw [eH] at J
  obtain rfl : u = Value.ref f := rv
  have of1 : t.heap.get? f = some (PySem.W.kla_obj "<lambda>" (X.env.qual ++ "<lambda>") pr bd sc (cloFrom X.env.cells sc.names []) pm c' ctv) := J.base.keep f _ hf hfn hfr fun z => nomatch (show f ∈ ([] : List Addr) from z)
  refine PySem.W.callWith_F0 ⟨_, _, _, _, of1⟩ ?_
  have un : Un (frs X.stack) [] H HZ s.heap t.heap := J.base
  obtain ⟨⟨oc, ws, tk1, hoc, hdc, hvc⟩, _, _⟩ := J.hok c' _ hco
  have rc : codeAny (model X.prog X.w) (X.A.deeper (PyProof.Rows.envOfC qg sg s.heap.objs.size g cdg)) (.call (.ref f) ⟨[], []⟩) (CR (L2.CX X.prog X.w) (PyProof.Rows.envOfC qg sg s.heap.objs.size g cdg :: X.stack) X.prog X.w HZ t Q fun cls d H' => W cls d σZ H') t := by
    refine PySem.W.kla_callFunE hr.r.depth of1 rfl L.co L.gen rfl ⟨c', oc, ws, tk1, rfl, hoc, hdc, hvc⟩ ?_
    rw [hbind]
    refine wpAny_pure (wpAny_newFunctionEnv (fun y hy => (L.own y hy).2) (fun y hy => absurd hy (by simp)) (fun h1 hns hsb => ⟨J.nolimit.fresh _ hsb, ?_⟩) L.kind)
    show codeAny _ _ (.expr bd (lamEnv X sc t.heap.objs.size f c')) _ _
    have kp : ∀ b o, t.heap.get? b = some o → h1.get? b = some o := fun b o e => hsb.extBut b o (Nat.ne_of_lt (Heap.lt_size e)) (Heap.get?_push_of_some _ e)
    have I2 := LamX.lam_start2 (E := fun cls d H' => W cls d σZ H') (f := f) (c' := c') (tk := t.toks + ([] : List (Str × Value)).length) I L J.env0 hr.r.hd un hns kp
    refine PySem.W.kla_codeExpr (wpAny_mono (go _ _ t (hr.in _) [] _ I2) (fun v s' hq => ?_) fun e s' hq => hq)
    obtain ⟨w', H', J', rv', q⟩ := hq
    exact ⟨w', H', J'.os, J'.bare, J'.base, J'.hok, rv', q⟩
  refine wpAny_call (codeAny_mono rc fun r s' hq => ?_)
  rcases r with e | fl
  · exact tk e s' (XE.of_call J (fun _ _ _ z => z) hq)
  · cases fl with
    | ret u => exact J.after hq
    | next => exact hq.elim
    | brk => exact hq.elim
    | cont => exact hq.elim
/-- what a call of a lambda does: at these cells it ends so, or raises so -/
abbrev LB := Mu → (D → Mu → Prop) → XW → Prop
abbrev LS := LB → Mu → (D → Mu → Prop) → Prop
/-- .. of this lambda, made in X at these slots -/
def LamB (X : Cy) (sc : Scope) (bd : Expr) (ρ : Rho) (k : Nat) : LB := fun μ Φ Ψ => ∀ (A : Around) (outer : List Env) (t : Shared) (H : Hp) (E : XK) (f c' : Addr) (gr : Hp), Rm k (A.deeper (lamEnv X.c sc t.heap.objs.size f c')) →
  Tk ⟨lamCx X.c A outer t H E sc f c', gr⟩ (fun C ks vs _ μ' => Ψ C ks vs μ') → wE ⟨lamCx X.c A outer t H E sc f c', gr⟩ bd ρ μ Φ
/-- the first slot of Z holds a lambda that does B -/
def Acts (Z : Cx) (gr : Hp) (fl : Addr) (a : Str) (B : LB) : Prop := ∀ (pn : List (Addr × Obj)) (xe : Value → Shared → Prop) (g2 : Hp) (Ψ : Addr → List Str → List D → Rho → Mu → Prop) (ρZ : Rho) (μZ : Mu) (Φ : D → Mu → Prop) (p1 p2 : Pos), Ex gr g2 → ρZ[0]? = some (some (.ptr fl)) → Tk ⟨Z.tr pn xe, g2⟩ Ψ →
  B μZ Φ (fun C ks vs μ2 => Ψ C ks vs ρZ μ2) → wE ⟨Z.tr pn xe, g2⟩ (.Call (.Name a p1) [] [] p2) ρZ μZ Φ
/-- the promise of a def with one parameter, a lambda -/
structure KnL (P : Program) (w : World) (K : PySem.W.Frag) (mg : Str → Option Value) (base : Heap) (k : Nat) (x a : Str) (st : Stmt) (N : List Str) (S : LS) : Prop where
  src : Src K mg x st [a]
  sc : FnScope N [a] (defScope st)
  run : ∀ (g : Addr) (cdv : Value) (A : Around) (outer : List Env) (s : Shared) (H : Hp) (fl : Addr) (B : LB) (μ : Mu) (Φ : D → Mu → Prop) (gr : Hp), Rm k (A.deeper (PyProof.Rows.envOfC x (defScope st) s.heap.objs.size g cdv)) → S B μ Φ →
    Acts (cxOf CX0 P w K mg base N x (defScope st) g cdv A outer s H E0).nox gr fl a B →
    wSs ⟨(cxOf CX0 P w K mg base N x (defScope st) g cdv A outer s H E0).nox, gr⟩ (defBody st) (rho N [.ptr fl]) μ { nx := fun _ μ' => Φ .non μ', rt := Φ }
section
variable {X : Cy}
/-- x(lambda: bd) -/
theorem w_lam {x a : Str} {st : Stmt} {N : List Str} {S : LS} {kg kb k0 : Nat} {c Pt : Addr} {q : Str} {pr : Arguments} {bd : Expr} {sc : Scope} {ρ : Rho} {μ : Mu} {Φ : D → Mu → Prop} {p lpos pos : Pos} (G : KnL X.prog X.w X.K X.mg X.base kg x a st N S) (hr : Rm k0 X.A) (i : Nat) (hi : μ[i]? = some (Pt, .tab q)) (TB : TabB X.base X.mg c Pt)
    (h : S (LamB X sc bd ρ kb) μ Φ) (h1 : kg + 1 ≤ k0 := by decide) (h2 : kb + 2 ≤ k0 := by decide) (hcode : X.env.code = .ref c := by rfl) (hq : X.env.qual ++ "<lambda>" = q := by rfl) (L : LamS X.env.scope sc := by exact LamX.lamS_by (by decide +kernel)) (hdef : defaultsOf pr X.env = ([], []) := by rfl)
    (hbind : ∀ (y : Str) (cl : List (Str × Addr)) (pm cv ctv : Value), bindArgs (PySem.W.kla_fn "<lambda>" y pr bd sc cl pm cv ctv) ⟨[], []⟩ = pure [] := by intros; rfl) (hN : N[0]? = some a := by rfl) (hva : Vis (defScope st) a := by exact .inl rfl) (hg : Gl X x := by rfl)
    (hdb : (x == ("__debug__" : Str)) = false := by decide) (hd : (a == ("__debug__" : Str)) = false := by decide) (hcd : (a == ("__classdict__" : Str)) = false := by decide) : wE X (.Call (.Name x p) [.Lambda pr bd sc lpos] [] pos) ρ μ Φ := by
  intro F σ H hs sl Q kt pins s I
  obtain ⟨g, fd, Fn, hm, hb⟩ := G.src.ex
  have kpG := Fn.kp
  obtain ⟨oc, od, kV, doc, pm0, an, cdv, ct, osl, rfl, lk, hcg⟩ := Fn.ex
  obtain ⟨nP, u0, hP, ro⟩ := hs.at_ hi
  cases ro with
  | tab tb =>
  rename_i ps
  refine wpAny_Call_Name_kw (ld_glob I hg hm ?_ hdb)
  refine PySem.W.callWith_K (h₀ := X.base) I.ok.mod.kin kpG ?_ (by rfl) (by rfl)
  show wpAny _ _ (spliced ((false, eval (.Lambda pr bd sc lpos) X.env) :: backTo pos (starEach [] X.env))) _ _ s
  refine Calls.spliced_cons (lam_made I TB hcode hq hP tb.1 (fun p u hu => by obtain ⟨c0, e1, e2⟩ := tb.2 p u hu; exact ⟨c0, e1, hs.ex _ _ e2⟩) hdef (L.has I.ok) fun f c' pm' ctv H1 s' I1 hH hf hfn hfr hco => ?_)
  refine Calls.spliced_nil ⟨I1.kIn, ?_⟩
  have stp : ∃ F1, Ex F F1 ∧ Hs X.K F1 μ H1 ∧ F1 c' = some (CodeO c' q) := by
    rcases hH with e | ⟨e1, e2⟩
    · subst e
      have nc : F c' = some (CodeO c' q) ∨ F c' = none := by
        rcases e : F c' with _ | o
        · exact .inr rfl
        · rw [hs.ex _ _ e] at hco
          exact .inl hco
      rcases nc with nc | nc
      · exact ⟨F, Ex.refl F, hs, nc⟩
      · have hno : ∀ o, (c', o) ∉ μ := fun o hm => by
          obtain ⟨_, u, hu, ru⟩ := hs.mu c' o hm
          rw [hco] at hu
          cases hu
          unfold CodeO at ru
          cases ru
        obtain ⟨g1, g2⟩ := hs.still nc hco hno
        exact ⟨_, g2, g1, upd_same⟩
    · subst e2
      obtain ⟨g1, g2⟩ := hs.lam (a := lpos.line) (b := lpos.col) hi hP tb e1
      exact ⟨_, g2, g1, upd_same⟩
  obtain ⟨F1, e1, hs1, hc1⟩ := stp
  subst hq
  have act : Acts (cxOf CX0 X.prog X.w X.c.K X.mg X.base N x (defScope st) g cdv X.A X.stack s' H1 E0).nox F1 f a (LamB X sc bd ρ kb) := by
    intro pn xe g2 Ψ ρZ μZ ΦZ p1 p2 eg hslot tk hB
    obtain ⟨W, tW, hW⟩ := tk
    intro F2 σZ HZ hsZ slZ QZ ktZ
    refine se_of (act_pe (k := kb) (i := 0) I1 L hf hfn hfr (hbind _ _ _ _ _) tW ((hr.le (show kb + 1 + 1 ≤ k0 by omega)).in _) hN hva hd hcd) ⟨?_, hsZ.ex _ _ (hsZ.gr _ _ (eg _ _ hc1)), fun A outer t hrm pins2 u I2 => ?_⟩
    · obtain ⟨v, g1, g2⟩ := slZ.at_ 0 _ hslot
      cases g2
      exact g1
    · have tkl : Tk ⟨lamCx X.c A outer t HZ (fun cls d H' => W cls d σZ H') sc f c', F2⟩ (fun C ks vs _ μ' => Ψ C ks vs ρZ μ') := by
        refine ⟨fun cls d _ H' => W cls d σZ H', takes_of (X := lamCx X.c A outer t HZ (fun cls d H' => W cls d σZ H') sc f c') (E := fun cls d H' => W cls d σZ H') rfl rfl rfl rfl, fun C d ks vs F3 σ3 H3 ρ3 μ3 z xr hs3 sl3 => ?_⟩
        exact hW C d ks vs F3 σZ H3 ρZ μ3 z xr (hs3.regr (hsZ.gr.trans hs3.gr)) (slZ.mono hs3.gr)
      exact hB A outer t HZ _ f c' F2 hrm tkl F2 σ HZ (hsZ.regr (Ex.refl F2)) (sl.mono (e1.trans (eg.trans hsZ.gr))) QZ (fun v F3 H3 d μ3 z x3 hs3 r3 => ktZ v F3 H3 d μ3 z x3 (hs3.regr (hsZ.gr.trans x3)) r3) pins2 u I2
  have rc : codeAny (model X.prog X.w) X.A (.call (.ref g) ⟨[.ref f], []⟩) (CR CX0 X.stack X.prog X.w H1 s' Q E0) s' := by
    have hrg : Rm (kg + 1) X.A := hr.le h1
    refine LamX.run_ofS (k := kg) (N := N) (ps := [a]) (us := [.ref f]) (vs := [.ref f]) lk hcg G.sc hrg.r I1.env0 (hb s' [.ref f] I1.kIn rfl) (.cons rfl .nil) rfl fun _ => ?_
    refine ⟨_, PSs.nox (pss_s (X := ⟨(cxOf CX0 X.prog X.w X.c.K X.mg X.base N x (defScope st) g cdv X.A X.stack s' H1 E0).nox, F1⟩)), ?_⟩
    exact G.run g cdv X.A X.stack s' H1 f (LamB X sc bd ρ kb) μ Φ F1 (hrg.in _) h act F1 (L2.start N [.ref f]) H1 (hs1.regr (Ex.refl F1)) (sl_start (.cons (.ptr f) .nil)) { nx := fun _ H' => Q .non H', rt := Q, bk := fun _ _ => False, ct := fun _ _ => False }
      ⟨fun F2 H2 σ2 ρ2 μ2 z x2 hs2 sl2 => kt .non F2 H2 .non μ2 z (e1.trans x2) (hs2.regr (hs1.gr.trans x2)) .non, fun v F2 H2 d μ2 z x2 hs2 r2 => kt v F2 H2 d μ2 z (e1.trans x2) (hs2.regr (hs1.gr.trans x2)) r2, fun F2 H2 σ2 ρ2 μ2 z => False.elim z, fun F2 H2 σ2 ρ2 μ2 z => False.elim z⟩
  refine wpAny_call (codeAny_mono rc fun r s2 hz => ?_)
  rcases r with e | fl
  · exact (show False from hz).elim
  · cases fl with
    | ret u => exact I1.after hz
    | next => exact hz.elim
    | brk => exact hz.elim
    | cont => exact hz.elim
end
/-! ### defs that make lambdas, the law's end with their tables -/
section
variable {P : Program} {w : World} {K : PySem.W.Frag} {mg : Str → Option Value} {base : Heap}
/-- the code object of the def x and its table -/
structure TabC (K : PySem.W.Frag) (mg : Str → Option Value) (base : Heap) (x : Str) (c Pt : Addr) : Prop where
  kin : K.In base
  ns : base.Ns mainGlobals mg
  tb : TabB base mg c Pt
  ti : PySem.W.tabIn K x = some (c, Pt)
theorem TabC.code {x : Str} {st : Stmt} {c Pt f : Addr} {fd : FuncData} (T : TabC K mg base x c Pt) (hm : mg x = some (.ref f)) (F : Fun K x x st f fd) : fd.code = .ref c := by
  obtain ⟨oc, od, kV, doc, pm, an, cdv, ct, osl, rfl, lk, hcd⟩ := F.ex
  exact PySem.W.law_code T.kin T.ns T.ti hm (T.kin _ _ lk) rfl
theorem fnG_ofT {x : Str} {st : Stmt} {f c Pt : Addr} {fd : FuncData} {N ps : List Str} {k : Nat} {S : FS} (T : TabC K mg base x c Pt) (hm : mg x = some (.ref f)) (F : Fun K x x st f fd) (Sc : FnScope N ps (defScope st)) (len : ∀ ds μ Φ, S ds μ Φ → ds.length = ps.length)
    (body : ∀ (A : Around) (outer : List Env) (s : Shared) (H : Hp) (E : XK) (g : Hp), Rm k (A.deeper (PyProof.Rows.envOfC x (defScope st) s.heap.objs.size f (.ref c))) → ∀ ds μ Φ, S ds μ Φ →
      wSs ⟨(cxOf CX0 P w K mg base N x (defScope st) f (.ref c) A outer s H E).nox, g⟩ (defBody st) (rho N ds) μ { nx := fun _ μ' => Φ .non μ', rt := Φ }) : FnG P w K mg base (k + 1) f fd ps S :=
  fnG_ofC F Sc len fun cdv hc => by
    have e : cdv = .ref c := hc.symm.trans (T.code hm F)
    subst e
    exact body
theorem kn_ofT {x : Str} {st : Stmt} {N ps : List Str} {k : Nat} {c Pt : Addr} {S : FS} (T : TabC K mg base x c Pt) (B : Src K mg x st ps) (Sc : FnScope N ps (defScope st)) (len : ∀ ds μ Φ, S ds μ Φ → ds.length = ps.length)
    (body : ∀ (f : Addr) (A : Around) (outer : List Env) (s : Shared) (H : Hp) (E : XK) (g : Hp), Rm k (A.deeper (PyProof.Rows.envOfC x (defScope st) s.heap.objs.size f (.ref c))) → ∀ ds μ Φ, S ds μ Φ →
      wSs ⟨(cxOf CX0 P w K mg base N x (defScope st) f (.ref c) A outer s H E).nox, g⟩ (defBody st) (rho N ds) μ { nx := fun _ μ' => Φ .non μ', rt := Φ }) : KnG P w K mg base (k + 1) x ps S := by
  obtain ⟨f, fd, F, hm, hb⟩ := B.ex
  exact ⟨f, fd, hm, F.kp, hb, fnG_ofT T hm F Sc len (body f)⟩
def S_lawT (ts : List (Addr × Str)) : FS := fun ds μ Φ => ∃ ns : List Int, ds = [.scr (ns.map D.int)] ∧ ns.length ≤ 63 ∧ μ = ts.map (fun p => (p.1, MO.tab p.2)) ∧ ∀ μ', Φ (.bl true) μ'
end
open PyProof.Rows in
theorem law_callT {P : Program} {w : World} {K : PySem.W.Frag} {mg mb : Str → Option Value} {k : Nat} {fa a : Addr} {fd : FuncData} {x : Str} {t : Shared} {vs : List Value} {ns : List Int} {cs : List (Addr × Addr)} {ts : List (Addr × Str)} (hts : ts.map (·.1) = cs.map (·.2)) (nd : (ts.map (·.1)).Nodup)
    (kT : K.In t.heap) (hns : t.heap.Ns mainGlobals mg) (hb : t.heap.Ns builtinsNs mb) (hbb : ∀ y : Str, y ≠ "__name__" → mb y = bootBuiltins y) (nl : t.heap.NoLimit) (hg : t.gens = #[]) (hP : ∀ p ∈ cs, t.heap.get? p.2 = some { cls := .none, data := .fields #[] }) (nP : ∀ p ∈ cs, K.lookup p.2 = none) (hC : ∀ p ∈ cs, PySem.W.CodeHd t.heap p.1 p.2)
    (hbm : ∃ (bm : Addr) (ob : Obj), mg "__builtins__" = some (.ref bm) ∧ bm ≠ builtinsNs ∧ t.heap.get? bm = some ob ∧ ob.cls = .type "module" ∧ ob.dict = some builtinsNs ∧ ob.data = .plain) (ha : t.heap.get? a = some { cls := .type "list", data := .seq vs.toArray }) (hi : PyProof.Rows.IntsAre vs ns)
    (hl : ns.length ≤ 63) (hr : Rm k callerA) (F : ∀ base : Heap, K.In base → base.Ns mainGlobals mg → (∀ p ∈ cs, TabB base mg p.1 p.2) → FnG P w K mg base k fa fd [x] (S_lawT ts)) (bind : ∀ (s : Shared) (u : Value), BindsTo s fd ⟨[u], []⟩ [(x, u)]) :
    codeAny (model P w) callerA (.call (.ref fa) ⟨[.ref a], []⟩) (fun r s' => r = .ok (.ret (.bool true)) ∧ OldK t.heap s'.heap ∧ s'.os = t.os ∧ AllBare s'.gens) t := by
  have vals := vals_ints hi
  have lenV := hi.length
  have hz : ns.length ≤ sizeLine := Nat.le_trans hl (by decide)
  obtain ⟨T, hT⟩ : ∃ T, T = cs.map (·.2) := ⟨_, rfl⟩
  have tabO : ∀ b, b ∈ T → t.heap.get? b = some { cls := .none, data := .fields #[] } := fun b hm => by
    rw [hT] at hm
    obtain ⟨p, hp, rfl⟩ := List.mem_map.mp hm
    exact hP p hp
  have tabK : ∀ b, b ∈ T → K.lookup b = none := fun b hm => by
    rw [hT] at hm
    obtain ⟨p, hp, rfl⟩ := List.mem_map.mp hm
    exact nP p hp
  have aT : a ∉ T := fun hm => by
    have e := tabO a hm
    rw [ha] at e
    cases e
  suffices goal : ∀ F0 : Hp, (∀ b, F0 b = none ∨ ∃ o xs, F0 b = some (.frz o (.lst xs))) → SqL K F0 a (ns.map V.int) → HOk P w F0 t.heap → (∀ b, F0 b ≠ none → b = a) → (F0 a ≠ none → K.lookup a = none) →
      codeAny (model P w) callerA (.call (.ref fa) ⟨[.ref a], []⟩) (fun r s' => r = .ok (.ret (.bool true)) ∧ OldK t.heap s'.heap ∧ s'.os = t.os ∧ AllBare s'.gens) t by
    rcases hk : K.lookup a with _ | ob
    · let H1 : Hp := fun b => if b = a then some (.frz { cls := .type "list", data := .seq vs.toArray } (.lst (ns.map V.int))) else none
      have at1 : H1 a = some (.frz { cls := .type "list", data := .seq vs.toArray } (.lst (ns.map V.int))) := if_pos rfl
      have off : ∀ b, b ≠ a → H1 b = none := fun b z => if_neg z
      refine goal H1 (fun b => ?_) (.inl (.inr ⟨_, at1⟩)) (fun b u z => ?_) (fun b z => Classical.byContradiction fun hb => z (off b hb)) fun _ => hk
      · rcases Classical.em (b = a) with rfl | hb
        · exact .inr ⟨_, _, at1⟩
        · exact .inl (off b hb)
      · rcases Classical.em (b = a) with rfl | hb
        · rw [at1] at z
          cases z
          exact ⟨ha, by rw [List.length_map]; exact hz, vs, _, vals, ha⟩
        · rw [off b hb] at z
          cases z
    · have e := kT a ob hk
      rw [ha] at e
      cases e
      exact goal (fun _ => none) (fun _ => .inl rfl) (.inr ⟨_, vs.toArray, _, hk, rfl, rfl, rfl, by rw [List.size_toArray, lenV]; exact hz, by simpa using vals⟩) (fun b u z => nomatch z) (fun b z => absurd rfl z) fun z => absurd rfl z
  intro F0 onl sq hok0 one apart
  let H : Hp := fun b => if b ∈ T then some (.tbl #[]) else F0 b
  have Hin : ∀ b, b ∈ T → H b = some (.tbl #[]) := fun b z => if_pos z
  have Hout : ∀ b, b ∉ T → H b = F0 b := fun b z => if_neg z
  have FT : ∀ b, b ∈ T → F0 b = none := fun b z => Classical.byContradiction fun q => aT (by rw [← one b q]; exact z)
  have ex : Ex F0 H := fun b o e => by
    rw [Hout b fun z => by rw [FT b z] at e; cases e]
    exact e
  have hok : HOk P w H t.heap := fun b u e => by
    by_cases hb : b ∈ T
    · rw [Hin b hb] at e
      cases e
      exact tabO b hb
    · rw [Hout b hb] at e
      exact (hok0 b u e).stay (fun _ _ _ q => q) (fun c q => ex _ _ q) fun c xs q => ex _ _ q
  have isA : ∀ {b : Addr}, ¬ H b = none → b = a ∨ b ∈ T := fun {b} z => by
    by_cases hb : b ∈ T
    · exact .inr hb
    · rw [Hout b hb] at z
      exact .inl (one b z)
  have out : ∀ {b : Addr} {o : Obj}, t.heap.get? b = some o → H b = none → (hidT t.heap H).get? b = some o := fun e n => hidT_get e n
  have plain : ∀ {b : Addr} {o : Obj}, t.heap.get? b = some o → (∀ vs n, o.data ≠ .seq vs n) → o.data ≠ .fields #[] → H b = none := fun {b o} e n1 n2 => Classical.byContradiction fun z => by
    rcases isA z with rfl | hb
    · rw [ha] at e
      cases e
      exact n1 _ _ rfl
    · rw [tabO b hb] at e
      cases e
      exact n2 rfl
  have dicts : ∀ {b : Addr} {o : Obj} {es : Array DictEntry} {ep : Nat}, t.heap.get? b = some o → o.data = .dict es ep → H b = none := fun {b o es ep} e d => plain e (fun vs n z => by rw [d] at z; cases z) fun z => by rw [d] at z; cases z
  have nsH : ∀ {b : Addr} {m : Str → Option Value}, t.heap.Ns b m → (hidT t.heap H).Ns b m := fun {b m} ⟨o, es, ep, e, d, r⟩ => ⟨o, es, ep, out e (dicts e d), d, r⟩
  have kH : K.In (hidT t.heap H) := fun b o e => out (kT b o e) (Classical.byContradiction fun z => by
    rcases isA z with eb | hb
    · subst eb
      have z' : F0 b ≠ none := by rw [← Hout b aT]; exact z
      rw [apart z'] at e
      cases e
    · rw [tabK b hb] at e
      cases e)
  have md : L2.Mod K mg (hidT t.heap H) := ⟨kH, nsH hns, ⟨mb, nsH hb, hbb⟩, let ⟨mc, h1, h2⟩ := nl; ⟨mc, nsH h1, h2⟩⟩
  have TB : ∀ p ∈ cs, TabB (hidT t.heap H) mg p.1 p.2 := fun p hp => by
    have oP := hP p hp
    refine ⟨?_, ?_, fun z => ?_⟩
    · obtain ⟨o, us, file, tf, flags, tg, inF, text, tt, e1, r1, r2, r3, rs⟩ := hC p hp
      refine ⟨o, us, file, tf, flags, tg, inF, text, tt, out e1 (plain e1 (fun vs n z => ?_) fun z => ?_), r1, r2, r3, rs⟩
      · rw [r2] at z
        cases z
      · rw [r2] at z
        cases z
        simp at r3
    · obtain ⟨bm, ob, b1, b2, b3, b4, b5, b6⟩ := hbm
      refine ⟨bm, ob, b1, b2, fun q => ?_, fun q => ?_, out b3 (plain b3 (fun vs n z => by rw [b6] at z; cases z) fun z => by rw [b6] at z; cases z), b4, b5, b6⟩
      · obtain ⟨o, es, ep, e, hd, _⟩ := hns
        rw [q, e] at b3
        cases b3
        rw [hd] at b6
        cases b6
      · rw [q, oP] at b3
        cases b3
        cases b6
    · obtain ⟨o, es, ep, e, hd, _⟩ := hns
      rw [z, oP] at e
      cases e
      cases hd
  have e0 : Env0 P w K mg (hidT t.heap H) callerA [] t H := ⟨rfl, md, fun b o e => of_hidT e, Nat.le_of_eq (hidT_size _ _), trivial, fun b hb => (nomatch hb), hok, AllBare.of_eq hg⟩
  have start : spD K (S_lawT ts) [.ref a] H (fun v _ => v = .bl true) E0 := by
    refine ⟨F0, F0, [.scr (ns.map D.int)], ts.map fun p => (p.1, MO.tab p.2), fun d _ => d = .bl true, ⟨ex, ?_, fun b o hm => ?_, Ex.refl F0⟩, .cons (.scr sq (reps_map (fun i => .int i) ns)) .nil, ⟨ns, rfl, hl, rfl, fun _ => rfl⟩, fun v F1 H1 d μ1 q _ _ r => ?_⟩
    · rw [List.map_map]
      exact nd
    · obtain ⟨p, hp, e⟩ := List.mem_map.mp hm
      cases e
      have hb : p.1 ∈ T := by
        rw [hT, ← hts]
        exact List.mem_map.mpr ⟨p, hp, rfl⟩
      refine ⟨FT _ hb, _, Hin _ hb, .tab ⟨trivial, fun ps u hu => ?_⟩⟩
      have z : codeAmong ps [] = some u := hu
      simp [codeAmong] at z
    · subst q
      cases r
      rfl
  refine codeAny_mono ((F _ kH (nsH hns) TB).run callerA [] t H ⟨[.ref a], []⟩ [.ref a] [.ref a] (fun v _ => v = .bl true) hr e0 (bind t (.ref a)) (.cons rfl .nil) start) fun r s' h => ?_
  rcases r with e | fl
  · exact h.elim
  · cases fl with
    | ret u =>
      obtain ⟨v, H', os, bare, un, hok', r', q⟩ := h
      obtain rfl : v = .bl true := q
      obtain rfl : u = Value.bool true := r'
      have grown : ∀ b, b ∈ T → ∃ more : Array Value, s'.heap.get? b = some { cls := .none, data := .fields more } := fun b hb => by
        obtain ⟨more, z⟩ := un.tbls b #[] (Hin b hb)
        exact ⟨_, hok' b _ z⟩
      have same : ∀ b o, b ∉ T → t.heap.get? b = some o → s'.heap.get? b = some o := fun b o hb e => by
        rcases onl b with z | ⟨ob, xs, z⟩
        · exact un.keep b o e ((Hout b hb).trans z) (fun z => nomatch z) (fun z => nomatch z)
        · have g1 := (hok b _ (ex _ _ z)).1
          rw [e] at g1
          cases g1
          exact (hok' b _ (un.frzs b _ _ (ex _ _ z))).1
      refine ⟨rfl, ⟨fun b o e => ?_, fun b o e => ?_⟩, os, bare⟩
      · by_cases hb : b ∈ T
        · obtain ⟨more, hm⟩ := grown b hb
          rw [hT] at hb
          obtain ⟨p, hp, rfl⟩ := List.mem_map.mp hb
          rw [hP p hp] at e
          cases e
          exact .inr (.inl ⟨((hC p hp).tab (hP p hp)).isCodeTable, rfl, #[], more, rfl, by rw [Array.empty_append]; exact hm⟩)
        · exact .inl (same b o hb e)
      · by_cases hb : b ∈ T
        · obtain ⟨more, hm⟩ := grown b hb
          exact ⟨_, hm⟩
        · exact ⟨o, same b o hb e⟩
    | next => exact h.elim
    | brk => exact h.elim
    | cont => exact h.elim
theorem walk_ofT {l : PySem.W.OpenLaw} {k : Nat} {q : Program} {loose : List Str} {XP : (Str → Option Value) → Heap → Prop} {YP : World → Heap → Prop} {d : DefRec} {K : Params → PySem.W.Frag} {x : Str} (hn : l.most = some 63) (hdf : d.params.defaults = []) (hr : Room k callerA)
    (hY : ∀ (w : World) (h : Heap), YP w h → (K w.params).In h)
    (F : ∀ (w : World) (mg : Str → Option Value) (fa : Addr) (h : Heap), (K w.params).In h → h.Ns mainGlobals mg → mg d.name = some (.ref fa) → (∀ (y : Str) (c Pt : Addr), ((PyProof.Rows.recsOf q).find? fun e => e.name == y).isSome = true → PySem.W.tabIn (K w.params) y = some (c, Pt) → PySem.W.CodeHd h c Pt ∧ h.get? Pt = some { cls := .none, data := .fields #[] }) →
      ∃ (fd : FuncData) (cs : List (Addr × Addr)) (ts : List (Addr × Str)), ts.map (·.1) = cs.map (·.2) ∧ (ts.map (·.1)).Nodup ∧ (∀ p ∈ cs, h.get? p.2 = some { cls := .none, data := .fields #[] }) ∧ (∀ p ∈ cs, (K w.params).lookup p.2 = none) ∧ (∀ p ∈ cs, PySem.W.CodeHd h p.1 p.2) ∧
        (∀ (s : Shared) (u : Value), BindsTo s fd ⟨[u], []⟩ [(x, u)]) ∧ ∀ base : Heap, (K w.params).In base → base.Ns mainGlobals mg → (∀ p ∈ cs, TabB base mg p.1 p.2) → FnG l.prog w (K w.params) mg base k fa fd [x] (S_lawT ts)) :
    PySem.W.WalkO q loose XP YP l.row.toRowW d [] (fun f vs => PySem.call f vs) := by
  refine Att.attach_call hn hdf fun w s₀ t mg mb fa o pm cd doc a vs ns G Y ho hd hcd hmg hobj hints hlen hg => ?_
  have KX := hY w _ Y
  obtain ⟨fd, cs, ts, h1, h2, h3, h4, h5, hb, hF⟩ := F w mg fa _ KX G.T.g hmg fun y c Pt hrec hti => by
    obtain ⟨d', hd'⟩ := Option.isSome_iff_exists.mp hrec
    exact PySem.W.tab_of G.T KX hd' hti
  exact law_callT h1 h2 KX G.T.g G.T.b G.T.builtins G.T.nolimit hg h3 h4 h5 G.T.bmain hobj hints hlen ⟨hr, rfl⟩ hF hb
end Oc

/-! Own layer: l.count(x), t.count(k), l.reverse(), tuples added and cut as plain tuples. -/
namespace Oc
open PySem PySem.Spec L2
open Evl (Ex)
/-- how often -/
def rCountL (K : PySem.W.Frag) : V → List V → Hp → VK → Prop := fun x xs H Q => ∃ (a : Addr) (y : V) (d : PyData) (ds : List PyData), x = V.ref a ∧ xs = [y] ∧ Dp K H (V.ref a) (.list ds) ∧ Dp K H y d ∧
  PyData.plainAll ds = true ∧ d.plain = true ∧ PyData.depthAll ds ≤ 60 ∧ Q (.int ((ds.countP fun z => PyData.eqv z d : Nat) : Int)) H
theorem mt_countL {X : Cx} (hu : X.A.units + 65 < cLine) : MtR X "list.count" (rCountL X.K) := by
  intro pins s σ H x xs v us Q I rx rxs h
  obtain ⟨a, y, d, ds, rfl, rfl, hl, hy, pl, pd, hd, q⟩ := h
  cases rx
  obtain ⟨uy, rfl, ry⟩ := vals1 rxs
  obtain ⟨bs, r1⟩ := Dp.reads I d y uy hy ry
  cases hl with
  | lst hs ha =>
    obtain ⟨its, rv, pl2, hlen⟩ := I.list hs
    obtain ⟨as, h4⟩ := Dp.readsAll I ds _ its ha rv
    exact SeqAt.count_list_data pl2.isList (show ReadsAll s.heap its.toArray.toList ds as from h4) r1 pl pd (by omega) ⟨.int _, H, I.tok _, ⟨_, rfl⟩, q⟩
def rCountT (K : PySem.W.Frag) : V → List V → Hp → VK → Prop := fun x xs H Q => ∃ (p : Addr) (ns : List Int) (k : Int), x = V.ref p ∧ xs = [.int k] ∧ SqT K H p (ns.map V.int) ∧ Q (.int ((ns.count k : Nat) : Int)) H
theorem count_ints (ns : List Int) (k : Int) : ((ns.map PyData.int).countP fun z => PyData.eqv z (.int k)) = ns.count k := by
  rw [List.countP_map, List.count]
  refine List.countP_congr fun x _ => ?_
  simp [PyData.eqv]
theorem plain_ints (ns : List Int) : PyData.plainAll (ns.map PyData.int) = true := by
  induction ns with
  | nil => rfl
  | cons a l ih => rw [List.map_cons]; simp only [PyData.plainAll, PyData.plain, ih]; rfl
theorem dpAll_ints {K : PySem.W.Frag} {H : Hp} : ∀ ns : List Int, DpAll K H (ns.map V.int) (ns.map PyData.int)
  | [] => .nil
  | n :: l => .cons (.int n) (dpAll_ints l)
theorem mt_countT {X : Cx} (hu : X.A.units + 65 < cLine) : MtR X "tuple.count" (rCountT X.K) := by
  intro pins s σ H x xs v us Q I rx rxs h
  obtain ⟨p, ns, k, rfl, rfl, hq, q⟩ := h
  cases rx
  obtain ⟨uy, rfl, t, rfl⟩ := vals1 rxs
  obtain ⟨its, rv, pl, hz⟩ := I.tuple hq
  obtain ⟨as, h4⟩ := Dp.readsAll I (ns.map PyData.int) _ its (dpAll_ints ns) rv
  have hd := depth_ints ns
  refine SeqAt.count_tuple_data pl (show ReadsAll s.heap its.toArray.toList _ as from h4) (Reads.int k t) (plain_ints ns) rfl (by omega) ⟨.int _, H, I.tok _, ⟨_, rfl⟩, ?_⟩
  rw [count_ints]
  exact q
/-! plain tuples from displays, sums and cuts -/
def tTupF (t : TA) : TE := fun σ H Q => t σ H fun xs H1 => xs.length ≤ sizeLine ∧ ∀ p o, H1 p = none → o.cls = Value.type "tuple" → o.dict = none → Q (.ref p) (upd H1 p (.frz o (.tup xs)))
theorem pe_tupF {X : Cx} {es : List Expr} {t : TA} {pos : Pos} {x1} (h : PA X es t) : PE X (.Tuple es x1 pos) (tTupF t) := by
  refine ⟨fun pins s σ H Q I hq => ?_⟩
  refine wpAny_Tuple_spliced (thn (h.run pos pins s σ H _ I hq) fun us s1 ⟨xs, H1, I1, r, z, q⟩ => ⟨by rw [← r.length]; exact z, ?_⟩)
  have hf : H1 s1.heap.objs.size = none := I1.hok.fresh (Nat.le_refl _)
  refine ⟨.ref s1.heap.objs.size, upd H1 s1.heap.objs.size (.frz { cls := .type "tuple", data := .seq us.toArray } (.tup xs)), I1.laid (t' := s1.toks) (fun b u e => Heap.get?_push_of_some _ e) (Nat.le_refl _) ?_, rfl, q _ _ hf rfl rfl⟩
  exact ⟨Heap.get?_push_size _ rfl, z, us, r, ⟨_, Heap.get?_push_size _ rfl, rfl, _, rfl⟩⟩
def rCatF (K : PySem.W.Frag) : R2 := fun x y H Q => ∃ a b xs ys, x = .ref a ∧ y = .ref b ∧ SqT K H a xs ∧ SqT K H b ys ∧ xs.length + ys.length ≤ sizeLine ∧
  (xs = [] → Q (.ref b) H) ∧ (xs ≠ [] → ys = [] → Q (.ref a) H) ∧ (xs ≠ [] → ys ≠ [] → ∀ p o, H p = none → o.cls = Value.type "tuple" → o.dict = none → Q (.ref p) (upd H p (.frz o (.tup (xs ++ ys)))))
theorem op_catF {X : Cx} : OpR X (binaryOp .Add) (rCatF X.K) := by
  intro pins s σ H x y v u Q I rx ry h
  obtain ⟨a, b, xs, ys, rfl, rfl, ha, hb, hz, q0, q1, q2⟩ := h
  cases rx
  cases ry
  obtain ⟨its, r1, p1, _⟩ := I.tuple ha
  obtain ⟨its2, r2, p2, _⟩ := I.tuple hb
  by_cases hx : xs = []
  · subst hx
    cases r1
    exact cat_tup0 p1 p2 ⟨.ref b, H, I, rfl, q0 rfl⟩
  · refine HT.cat_tup p1 p2 (fun z => hx (r1.nil_iff.mp z)) (fun z => ⟨.ref a, H, I, rfl, q1 hx (r2.nil_iff.mp z)⟩) (fun z => ?_) (by rw [← r1.length, ← r2.length]; exact hz)
    refine ⟨.ref s.heap.objs.size, _, I.laid (t' := s.toks) (o := .frz { cls := .type "tuple", data := .seq (its ++ its2).toArray } (.tup (xs ++ ys))) (fun b ob q => Heap.get?_push_of_some _ q) (Nat.le_refl _) ?_, rfl, q2 hx (fun w => z (r2.nil_iff.mpr w)) _ _ (I.hok.fresh (Nat.le_refl _)) rfl rfl⟩
    exact ⟨Heap.get?_push_size _ rfl, by rw [List.length_append]; exact hz, _, r1.append r2, PyProof.Rows.IsTup.new _ _⟩
def rSlF (K : PySem.W.Frag) : V → Option Int → Option Int → Hp → VK → Prop := fun x lo hi H Q => ∃ a xs, x = .ref a ∧ SqT K H a xs ∧
  (HT.sIx xs.length 0 lo = 0 ∧ HT.sIx xs.length xs.length hi = xs.length → Q (.ref a) H) ∧ (¬ (HT.sIx xs.length 0 lo = 0 ∧ HT.sIx xs.length xs.length hi = xs.length) → ∀ p o, H p = none → o.cls = Value.type "tuple" → o.dict = none → Q (.ref p) (upd H p (.frz o (.tup (cutV xs lo hi)))))
theorem sl_tupF {X : Cx} : SlR X (rSlF X.K) := by
  intro pins s σ H x v vl vu lo hi sl Q I rx hs pl pu h
  obtain ⟨a, xs, rfl, hx, q1, q2⟩ := h
  cases rx
  obtain ⟨its, r, ht, hz⟩ := I.tuple hx
  have hlen : its.toArray.size = xs.length := by rw [List.size_toArray]; exact r.length.symm
  refine ⟨"tuple", _, PyProof.Rows.slot_tuple_getitem.lookup, ht.typeIs, ?_⟩
  by_cases hw : HT.sIx xs.length 0 lo = 0 ∧ HT.sIx xs.length xs.length hi = xs.length
  · exact getItem_tuple_whole ht hs pl pu (by rw [hlen]; exact hw) ⟨.ref a, H, I, rfl, q1 hw⟩
  · refine HT.getItem_tuple_cut ht hs pl pu (by rw [hlen]; exact hw) ?_ (by rw [hlen]; exact hz)
    rw [hlen]
    refine ⟨.ref s.heap.objs.size, _, I.laid (t' := s.toks) (o := .frz { cls := .type "tuple", data := .seq ((its.drop (HT.sIx xs.length 0 lo)).take (HT.sIx xs.length xs.length hi - HT.sIx xs.length 0 lo)).toArray } (.tup (cutV xs lo hi))) (fun b ob q => Heap.get?_push_of_some _ q) (Nat.le_refl _) ?_, rfl, q2 hw _ _ (I.hok.fresh (Nat.le_refl _)) rfl rfl⟩
    exact ⟨Heap.get?_push_size _ rfl, Nat.le_trans (cutV_length xs lo hi) hz, _, (r.drop (HT.sIx xs.length 0 lo)).take (HT.sIx xs.length xs.length hi - HT.sIx xs.length 0 lo), PyProof.Rows.IsTup.new _ _⟩
section
variable {X : Cy} {e o : Expr} {es : List Expr} {ρ : Rho} {μ : Mu} {Φ : D → Mu → Prop} {d : D} {pos p apos cpos : Pos}
/-- l.count(x), l standing still -/
theorem m_count {ds : List D} (hu : X.c.A.units + 65 < cLine) (h1 : D.stills ds = true) (h2 : D.still d = true) (pl : PyData.plainAll (D.pys ds) = true) (pd : d.py.plain = true) (hd : PyData.depthAll (D.pys ds) ≤ 60) (k : Φ (.int (((D.pys ds).countP fun z => PyData.eqv z d.py : Nat) : Int)) μ) : wMt X "list" "list.count" (.lst ds) [d] μ Φ := wmt_of (mt_countL hu) fun F H x xs hs r1 r2 Q kt => by
  cases r2 with
  | cons r rr =>
    cases rr
    cases r1 with
    | lst g rx =>
      exact ⟨_, _, d.py, D.pys ds, rfl, rfl, .lst (Evl.sq_of (hs.ex _ _ g)) (reps_py hs.ex rx h1), rep_py hs.ex r h2, pl, pd, hd, kt.now k hs (.int _)⟩
theorem w_count (h : wE X o ρ μ fun d μ1 => tyD "list" d μ1 ∧ wA X [e] ρ μ1 fun ds μ2 => wMt X "list" "list.count" d ds μ2 Φ)
    (hbase : attributeBase o "count" X.env (eval o X.env) = eval o X.env := by rfl)
    (hfew : ((backTo cpos (starEach [e] X.env)).all (fun x => !x.1) && (backToKw cpos (keywordEach [] X.env)).all (fun x => x.1.isSome)
      && decide (([e] : List Expr).length + ([] : List Keyword).length + (if ([] : List Keyword).isEmpty then 0 else 1) < 30)) = true := by rfl)
    (hline : (apos.endLine == cpos.line) = true := by rfl) (hs : starEach [e] X.env = (false, eval e X.env) :: starEach [] X.env := by rfl) :
    wE X (.Call (.Attribute o "count" apos) [e] [] cpos) ρ μ Φ := w_bm (by decide) PySem.F.plainAttrs_list PySem.F.slot_list_count PySem.F.type_list_count h hbase hfew hline hs rfl
/-- t.count(k), t of ints -/
theorem w_countT (hu : X.c.A.units + 65 < cLine) (h : wE X o ρ μ fun d μ1 => ∃ ns : List Int, d = .tpl (ns.map D.int) ∧ wE X e ρ μ1 fun d2 μ2 => ∃ k : Int, d2 = .int k ∧ Φ (.int ((ns.count k : Nat) : Int)) μ2)
    (hbase : attributeBase o "count" X.env (eval o X.env) = eval o X.env := by rfl)
    (hfew : ((backTo cpos (starEach [e] X.env)).all (fun x => !x.1) && (backToKw cpos (keywordEach [] X.env)).all (fun x => x.1.isSome)
      && decide (([e] : List Expr).length + ([] : List Keyword).length + (if ([] : List Keyword).isEmpty then 0 else 1) < 30)) = true := by rfl)
    (hline : (apos.endLine == cpos.line) = true := by rfl) (hs : starEach [e] X.env = (false, eval e X.env) :: starEach [] X.env := by rfl) :
    wE X (.Call (.Attribute o "count" apos) [e] [] cpos) ρ μ Φ := fun F σ H hh sl Q kt =>
  se_of (pe_bmT PySem.F.slot_tuple_count PySem.F.type_tuple_count (mt_countT hu) pe_s (pa_cons pe_s pa_nil hs) hbase hfew hline hs rfl) (h F σ H hh sl _ fun u F1 H1 d μ1 ⟨ns, hd, q⟩ e1 hs1 r1 => by
    subst hd
    cases r1 with
    | tpl g hc hd rx =>
      have ev := reps_ints rx
      subst ev
      refine ⟨⟨_, _, _, rfl, hs1.ex _ _ g, hc, hd⟩, q F1 σ H1 hs1 (sl.mono e1) _ fun y F2 H2 d2 μ2 ⟨k, hd2, q2⟩ e2 hs2 r2 => ?_⟩
      subst hd2
      cases r2
      exact ⟨_, ns, k, rfl, rfl, .inl (.inr ⟨_, hs2.ex _ _ (e2 _ _ g)⟩), kt _ F2 H2 _ μ2 q2 (e1.trans e2) hs2 (.int _)⟩)
theorem w_tupP {n} (h : wA X es ρ μ fun ds μ1 => ds.length ≤ 100000 ∧ Φ (.tpl ds) μ1) : wE X (.Tuple es n pos) ρ μ Φ := fun F σ H hs sl Q kt =>
  se_of (pe_tupF pa_s) (h F σ H hs sl _ fun xs F1 H1 ds μ1 ⟨hz, q⟩ e1 hs1 r1 => ⟨Evl.sz_of (by rw [r1.length]; exact hz), fun p o hp hc hd => by
    obtain ⟨g1, g2⟩ := hs1.laid (u := .frz o (.tup xs)) hp
    exact kt _ _ _ _ _ q (e1.trans g2) g1 (.tpl upd_same hc hd (r1.mono g2))⟩)
theorem o_addTP {xs ys : List D} (hc : xs.length + ys.length ≤ 1000000) (k : Φ (.tpl (xs ++ ys)) μ) : wOp X (binaryOp .Add) (.tpl xs) (.tpl ys) μ Φ := wop_of op_catF fun F H _ _ hs r1 r2 Q kt => by
  cases r1 with
  | tpl g1 c1 d1 q1 =>
    cases r2 with
    | tpl g2 c2 d2 q2 =>
      have l1 := q1.length
      have l2 := q2.length
      refine ⟨_, _, _, _, rfl, rfl, .inl (.inr ⟨_, hs.ex _ _ g1⟩), .inl (.inr ⟨_, hs.ex _ _ g2⟩), Nat.le_trans (by omega) (show 1000000 ≤ sizeLine by decide), fun h => ?_, fun h1 h2 => ?_, fun h1 h2 p o hp c d => ?_⟩
      · subst h
        cases q1
        exact kt.now k hs (.tpl g2 c2 d2 q2)
      · subst h2
        cases q2
        rw [List.append_nil] at k
        exact kt.now k hs (.tpl g1 c1 d1 q1)
      · obtain ⟨s1, s2⟩ := hs.laid (u := .frz o (.tup _)) hp
        exact kt _ _ _ _ _ k s2 s1 (.tpl upd_same c d ((q1.append q2).mono s2))
theorem w_slP {lo hi : Option Expr} {p2 : Pos} (h : wE X e ρ μ fun d μ1 => wO X lo ρ μ1 fun a μ2 => wO X hi ρ μ2 fun b μ3 => ∃ ds, d = .tpl ds ∧ Φ (.tpl (cutD ds a b)) μ3) : wE X (.Subscript e (.Slice lo hi none p2) pos) ρ μ Φ := fun F σ H hs sl Q kt =>
  se_of (pe_slice sl_tupF pe_s po_s po_s) (h F σ H hs sl _ fun v F1 H1 d μ1 z1 e1 hs1 r1 => wO_go z1 hs1 (sl.mono e1) fun a F2 H2 μ2 z2 e2 hs2 => wO_go z2 hs2 (sl.mono (e1.trans e2)) fun b F3 H3 μ3 z3 e3 hs3 => by
    obtain ⟨ds, rfl, z⟩ := z3
    have r3 := r1.mono (e2.trans e3)
    have kt3 := kt.mono (e1.trans (e2.trans e3))
    cases r3 with
    | tpl g hc hd r => exact ⟨_, _, rfl, .inl (.inr ⟨_, hs3.ex _ _ g⟩), fun hw => by rw [cut_whole r hw] at z; exact kt3.now z hs3 (.tpl g hc hd r), fun _ q o hq c d => by
        obtain ⟨g1, g2⟩ := hs3.laid (u := .frz o (.tup (cutV _ a b))) hq
        exact kt3 _ _ _ _ _ z g2 g1 (.tpl upd_same c d ((cut_reps r a b).mono g2))⟩)
end
end Oc

/-! Own layer: defs that call themselves (by a measure), reversed lists. -/
namespace Oc
open PySem PySem.Spec L2
open Evl (Ex)
section
variable {X : Cy} {e : Expr} {ρ : Rho} {μ : Mu} {pos p : Pos}
theorem wi_revLs {tg : Expr} {ΦI : List D → Mu → Prop} (hm : X.mg "reversed" = none) (h : wE X e ρ μ fun d μ1 => ∃ ds, d = .lst ds ∧ ΦI ds.reverse μ1) (hg : Gl X "reversed" := by rfl) (hs : starEach [e] X.env = (false, eval e X.env) :: starEach [] X.env := by rfl) :
    wI X tg (.Call (.Name "reversed" p) [e] [] pos) ρ μ ΦI := fun F σ H hh sl R kt =>
  si_of (RT.pi_revA hg hm pe_s hs) (h F σ H hh sl _ fun v F1 H1 d μ1 ⟨ds, hd, q⟩ e1 hs1 r1 => by
    subst hd
    cases r1 with
    | lst g r =>
      rename_i a xs
      refine ⟨a, xs, rfl, .inl ⟨(Evl.sq_of (hs1.ex _ _ g)), kt _ _ F1 μ1 H1 q e1 hs1 fun i F' μ' H' e' hs' => ?_⟩⟩
      have g' : SqL X.K H' a xs := Evl.ex_l hs'.ex ((Evl.sq_of (e' _ _ g)))
      have hl := r.length
      rw [List.length_reverse]
      refine ⟨fun hi => ⟨by omega, xs, xs[xs.length - 1 - i]'(by omega), g', List.getElem?_eq_getElem _⟩, fun hi => by show xs.length ≤ i; omega, fun x H2 d hy hd => ?_⟩
      obtain ⟨rfl, fy⟩ := hy
      have hi : i < ds.length := by have := (List.getElem?_eq_some_iff.mp hd).1; rwa [List.length_reverse] at this
      rw [List.getElem?_reverse hi, ← hl] at hd
      obtain ⟨y, h1, h2⟩ := r.get hd
      cases (fy _ g').symm.trans h1
      exact ⟨F', Ex.refl _, hs', h2.mono e'⟩)
end
section
variable {X : Cy} {e : Expr} {ρ : Rho} {μ : Mu} {Φ : D → Mu → Prop} {d : D} {k : Nat} {p1 p2 p3 pos : Pos}
theorem w_revK (h : wE X e ρ μ fun d μ1 => ∃ ds, LV d μ1 ds ∧ ∀ p, Φ (.ptr p) ((p, .lst ds.reverse) :: μ1)) : wE X (.Subscript e (.Slice none none (some (.UnaryOp .USub (.Constant (.int 1) k p1) p2)) p3) pos) ρ μ Φ := fun F σ H hs sl Q kt =>
  se_of (pe_revL pe_s) (h F σ H hs sl _ fun v F1 H1 d μ1 ⟨ds, hl, q⟩ e1 hs1 r1 => by
    obtain ⟨a, xs, rfl, hq, rr⟩ := hl.sq hs1 r1
    exact ⟨a, xs, rfl, hq, fun p hp => kt _ _ _ _ _ (q p) e1 (hs1.cell hp (.lst rr.reverse)) (.ptr p)⟩)
end
section
open PyProof.Rows
variable {P : Program} {w : World} {K : PySem.W.Frag} {mg : Str → Option Value} {base : Heap}
/-- cells may be forgotten where a refusal leaves -/
theorem Tk.sub {X : Cy} {Ψ : Addr → List Str → List D → Rho → Mu → Prop} (t : Tk X Ψ) : Tk X (fun C ks vs ρ μ => ∃ μ2, μ2.Sublist μ ∧ Ψ C ks vs ρ μ2) := by
  obtain ⟨W, h1, h2⟩ := t
  exact ⟨W, h1, fun C d ks vs F σ H ρ μ ⟨μ2, s, q⟩ x hs sl => h2 C d ks vs F σ H ρ μ2 q x (hs.sub s) sl⟩
/-- a def that calls itself: S n is promised where S m is, for all m below n -/
theorem kn_rec {x : Str} {st : Stmt} {N ps : List Str} {d : Nat} {S : Nat → FS} (top : Nat) (B : Src K mg x st ps) (Sc : FnScope N ps (defScope st)) (len : ∀ n ds μ Φ, S n ds μ Φ → ds.length = ps.length)
    (body : ∀ n, (∀ m, m < n → KnG P w K mg base (m + (d + 1)) x ps (S m)) → ∀ (f : Addr) (cdv : Value) (A : Around) (outer : List Env) (s : Shared) (H : Hp) (E : XK) (g : Hp), Rm (n + d) (A.deeper (envOfC x (defScope st) s.heap.objs.size f cdv)) → ∀ ds μ Φ, S n ds μ Φ →
      wSs ⟨(cxOf CX0 P w K mg base N x (defScope st) f cdv A outer s H E).nox, g⟩ (defBody st) (rho N ds) μ { nx := fun _ μ' => Φ .non μ', rt := Φ }) : KnG P w K mg base (top + (d + 1)) x ps (fun ds μ Φ => ∃ n, n ≤ top ∧ S n ds μ Φ) := by
  obtain ⟨f, fd, F, hm, hb⟩ := B.ex
  have HH : ∀ n, FnG P w K mg base (n + (d + 1)) f fd ps (S n) := fun n => by
    induction n using Nat.strongRecOn with
    | _ n ih => exact fnG_of F Sc (len n) (fun cdv A outer s H E g => body n (fun m hmn => ⟨f, fd, hm, F.kp, hb, ih m hmn⟩) f cdv A outer s H E g)
  refine ⟨f, fd, hm, F.kp, hb, ⟨fun ds μ Φ h => by obtain ⟨n, _, h⟩ := h; exact len n _ _ _ h, fun A outer s H' args us vs Q hr e0 hb' r hsp => ?_⟩⟩
  obtain ⟨g, F', ds, μ, Φ, hs, rr, ⟨n, hn, q⟩, kt⟩ := hsp
  exact (HH n).run A outer s H' args us vs Q (hr.le (by omega)) e0 hb' r ⟨g, F', ds, μ, Φ, hs, rr, q, kt⟩
/-- the same of a def that may raise -/
theorem kn_recX {x : Str} {st : Stmt} {N ps : List Str} {d : Nat} {S : Nat → FX} (top : Nat) (B : Src K mg x st ps) (Sc : FnScope N ps (defScope st)) (len : ∀ n ds μ Φ Ψ, S n ds μ Φ Ψ → ds.length = ps.length)
    (body : ∀ n, (∀ m, m < n → KnX P w K mg base (m + (d + 1)) x ps (S m)) → ∀ (f : Addr) (cdv : Value) (A : Around) (outer : List Env) (s : Shared) (H : Hp) (E : XK) (g : Hp), Rm (n + d) (A.deeper (envOfC x (defScope st) s.heap.objs.size f cdv)) → ∀ ds μ Φ Ψ, S n ds μ Φ Ψ →
      Tk ⟨cxOf (L2.CX P w) P w K mg base N x (defScope st) f cdv A outer s H E, g⟩ (fun C ks vs _ μ' => Ψ C ks vs μ') → PassesOwn (model P w) (A.deeper (envOfC x (defScope st) s.heap.objs.size f cdv)) (envOfC x (defScope st) s.heap.objs.size f cdv) (cxOf (L2.CX P w) P w K mg base N x (defScope st) f cdv A outer s H E).xe →
      wSs ⟨cxOf (L2.CX P w) P w K mg base N x (defScope st) f cdv A outer s H E, g⟩ (defBody st) (rho N ds) μ { nx := fun _ μ' => Φ .non μ', rt := Φ }) : KnX P w K mg base (top + (d + 1)) x ps (fun ds μ Φ Ψ => ∃ n, n ≤ top ∧ S n ds μ Φ Ψ) := by
  obtain ⟨f, fd, F, hm, hb⟩ := B.ex
  have HH : ∀ n, FnX P w K mg base (n + (d + 1)) f fd ps (S n) := fun n => by
    induction n using Nat.strongRecOn with
    | _ n ih => exact fnX_of F Sc (len n) (fun cdv A outer s H E g => body n (fun m hmn => ⟨f, fd, hm, F.kp, hb, ih m hmn⟩) f cdv A outer s H E g)
  refine ⟨f, fd, hm, F.kp, hb, ⟨fun ds μ Φ Ψ h => by obtain ⟨n, _, h⟩ := h; exact len n _ _ _ _ h, fun A outer s H' args us vs Q E hr e0 hb' r hsp => ?_⟩⟩
  obtain ⟨g, F', ds, μ, Φ, Ψ, hs, rr, ⟨n, hn, q⟩, kt, kx⟩ := hsp
  exact (HH n).run A outer s H' args us vs Q E (hr.le (by omega)) e0 hb' r ⟨g, F', ds, μ, Φ, Ψ, hs, rr, q, kt, kx⟩
theorem KnG.up {x : Str} {ps : List Str} {S : FS} {k k' : Nat} (G : KnG P w K mg base k x ps S) (h : k ≤ k') : KnG P w K mg base k' x ps S := by
  obtain ⟨f, fd, hm, kp, hb, F⟩ := G.ex
  exact ⟨f, fd, hm, kp, hb, F.len, fun A outer s H args us vs Q hr e0 hb' r hsp => F.run A outer s H args us vs Q (hr.le h) e0 hb' r hsp⟩
end
end Oc

/-! Own layer: a refusal that leaves a list comprehension (a call in its element may raise). -/
namespace Oc
open PySem PySem.Spec L2 PyProof.Rows
open Evl (Ex)
section
variable {X : Cx} {pins : List (Addr × Obj)} {σ : L2.St} {H : Hp} {s s' : Shared}
/-- behind a call that raised: the state without the refusal -/
theorem of_callF (I : Inv X pins σ H s) {a : Addr} {B : Heap} {Z : Obj → Prop} {H' : Hp} (fl : HandSPX.FlyingZ B X.stack a Z s'.heap) (hok : HOk X.prog X.w H' B) (ub : UB (frs X.stack) H H' s.heap B s'.heap) (ag : AllBare s'.gens) :
    ∃ sI : Shared, Inv X pins σ H' sI ∧ (∀ b o, sI.heap.get? b = some o → b ∉ frs X.stack → B.get? b = some o) ∧ sI.heap.UpToSlots s'.heap ∧ sI.os = s.os := by
  obtain ⟨G, g1, g2⟩ := restrict s'.heap fun b => (B.get? b).isSome || decide (b ∈ frs X.stack)
  have st : B.StaysIn s'.heap := fl.1
  have gB : ∀ b o, B.get? b = some o → G.get? b = some o := fun b o e => by
    rw [g1 b (by simp [e])]
    exact st b o e
  have gF : ∀ b, b ∈ frs X.stack → G.get? b = s'.heap.get? b := fun b hb => g1 b (by simp [hb])
  have og : ∀ b o, G.get? b = some o → s'.heap.get? b = some o ∧ ((B.get? b).isSome = true ∨ b ∈ frs X.stack) := fun b o e => by
    cases q : ((B.get? b).isSome || decide (b ∈ frs X.stack)) with
    | false => rw [g2 b q] at e; cases e
    | true =>
      rw [g1 b q] at e
      exact ⟨e, by simpa [Bool.or_eq_true] using q⟩
  refine ⟨{ s with heap := G, gens := s'.gens, drawn := s'.drawn, toks := s'.toks }, ?_, fun b o e hb => ?_, Heap.UpToSlots.of_keeps fun b o e => (og b o e).1, rfl⟩
  · refine I.call (ch := []) ⟨fun b o e n hb _ => gB b o (ub.keep b o e n hb), fun b o e n hb _ => ?_, fun b o e n _ => ub.free b o e n, fun b o e _ => ?_, ub.tups, ub.frzs, ub.tbls⟩ (hok.kept gB) ag (fun _ z => nomatch z)
    · obtain ⟨sl, q⟩ := ub.slot b o e hb
      exact ⟨sl, by rw [gF b hb]; exact q⟩
    · by_cases hb : b ∈ frs X.stack
      · obtain ⟨sl, q⟩ := ub.slot b o e hb
        exact ⟨_, by rw [gF b hb]; exact q⟩
      · obtain ⟨o', q⟩ := ub.there b o e hb
        exact ⟨o', gB b o' q⟩
  · obtain ⟨e', h⟩ := og b o e
    rcases h with h | h
    · obtain ⟨o', q⟩ := Option.isSome_iff_exists.mp h
      have z := st b o' q
      rw [e'] at z; cases z
      exact q
    · exact absurd h hb
/-- what a call in a block's element may do -/
def Hop (X : Cx) (W : WX) (σ : L2.St) (s0 : Shared) (H0 : Hp) (scope : Scope) (ce : Env) (fp : List Addr) (xe : Value → Shared → Prop) : Prop :=
  ∀ (pins : List (Addr × Obj)) (σ' : L2.St) (H : Hp) (s : Shared) (e : Value) (s' : Shared), Inv ((X.blk s0 H0 scope ce fp).wish xe) pins σ' H s → L2.CX X.prog X.w X.stack H s (fun cls d H2 => W cls d σ H2) e s' → xe e s'
theorem hop_ok {W : WX} (tW : Takes X W) (hst : X.stack = X.env :: X.outer) (hfr : X.env.frame = some X.env.locals) {s3 : Shared} {H3 : Hp} (I3 : Inv X pins σ H3 s3) {scope : Scope} {ce : Env} {fp : List Addr} (hce : ce.frame = X.env.frame) (cL : s3.heap.get? ce.locals = none)
    (hfp : ∀ b ∈ fp, (b ∈ X.ex ∨ X.s_0.heap.objs.size ≤ b) ∧ b ≠ X.env.locals ∧ (∀ x c, X.env.cells.lookup x = some c → c ≠ b) ∧ ∀ p ∈ X.pn ++ pins, p.1 ≠ b) (hfn : ∀ b ∈ fp, b ≠ ce.locals) :
    Hop X W σ s3 H3 scope ce fp (notedBy (model X.prog X.w) X.A ce (CompFails (model X.prog X.w) X.A X.xe ce)) := by
  intro pins' σ' H s e s' I c
  obtain ⟨a, B, H', cls, d, rfl, fl, hok, ub, na, os, ag, hE⟩ := c
  obtain ⟨sI, I', nb, up, eos⟩ := of_callF (s' := s') I.unwish (X := X.blk s3 H3 scope ce fp) fl hok ub ag
  have nb : ∀ b o, sI.heap.get? b = some o → b ∉ frs X.stack → B.get? b = some o := nb
  have hfrm : X.A.frames = some (X.env :: X.outer) := by rw [I3.ok.frames, hst]
  show wpAny (model X.prog X.w) X.A (noteFrame (.ref a) ce) (fun _ s'' => CompFails (model X.prog X.w) X.A X.xe ce (.ref a) s'') _ s'
  rw [noteFrame_env _ hce]
  refine HandSPX.looks_onZ Zc.steady hfrm hfr (by rw [← hst]; exact fl) fun h1 hh up1 => ?_
  obtain ⟨m, hn, _⟩ := I'.loc
  have hn : sI.heap.Ns ce.locals m := hn
  have hn1 : h1.Ns ce.locals m := up1.ns (up.ns hn)
  refine ⟨m, hn1, fun h2 m2 hn2 hs2 => ?_⟩
  have nC : H' ce.locals = none := I'.free
  obtain ⟨B2, b1, b2⟩ := restrict B fun b => decide (b ≠ ce.locals)
  obtain ⟨G2, g1, g2⟩ := restrict sI.heap fun b => decide (b ≠ ce.locals)
  have bB : ∀ b o, B2.get? b = some o → B.get? b = some o ∧ b ≠ ce.locals := fun b o e => by
    by_cases q : b = ce.locals
    · rw [b2 b (by simp [q])] at e; cases e
    · rw [b1 b (by simp [q])] at e; exact ⟨e, q⟩
  have gG : ∀ b o, G2.get? b = some o → sI.heap.get? b = some o ∧ b ≠ ce.locals := fun b o e => by
    by_cases q : b = ce.locals
    · rw [g2 b (by simp [q])] at e; cases e
    · rw [g1 b (by simp [q])] at e; exact ⟨e, q⟩
  have Gg : ∀ b o, sI.heap.get? b = some o → b ≠ ce.locals → G2.get? b = some o := fun b o e q => by rw [g1 b (by simp [q])]; exact e
  have I6 : Inv (X.blk s3 H3 scope ce fp) pins' σ' H' sI := I'
  have ne : ∀ b o, s3.heap.get? b = some o → b ≠ ce.locals := fun b o e z => by rw [z, cL] at e; cases e
  have I7 : Inv X pins σ H' { sI with heap := G2 } := by
    have u := I6.base
    refine I3.call' (ch := fp) (s' := { sI with heap := G2 }) I6.os ⟨fun b o e n hf hx => Gg b o (u.keep b o e n hf hx) (ne b o e), fun b o e n hf hx => ?_, u.free, fun b o e hx => ?_, u.tups, u.frzs, u.tbls⟩ (fun b o q => (I6.hok b o q).stay (fun c v hc r => Gg c v r fun z => ?_) (fun _ r => r) fun _ _ r => r) I6.bare hfp
    · obtain ⟨sl, q⟩ := u.slot b o e n hf hx
      exact ⟨sl, Gg b _ q (ne b o e)⟩
    · obtain ⟨o', q⟩ := u.there b o e hx
      exact ⟨o', Gg b _ q (ne b o e)⟩
    · subst z
      rcases hc with hc | hc
      · rw [hc, q] at nC; cases nC
      · rw [hc] at nC; cases nC
  obtain ⟨k1, k2, k3, oe, vs, T, oT, ts, he, hz, hd, h1', hnT, hTe, hT, hdT, h3⟩ := hh
  have neC : ∀ b o ws, h1.get? b = some o → o.data = .fields ws → b ≠ ce.locals := fun b o ws e q z => by
    obtain ⟨oL, es, ep, hoL, hdL, _⟩ := hn1
    rw [z, hoL] at e
    cases e
    rw [hdL] at q; cases q
  have hea : h2.get? a = some oe := (hs2.2 a (neC a oe vs he hd)).trans he
  have hTa : h2.get? T = some oT := (hs2.2 T (neC T oT ts hT hdT)).trans hT
  have nB2 : ∀ b, B.get? b = none → B2.get? b = none := fun b e => by
    cases q : B2.get? b with
    | none => rfl
    | some o => rw [(bB b o q).1] at e; cases e
  have hh2 : HandSPX.HeldZ B2 (X.env :: X.outer) a (Zc cls d) X.env.locals h2 := by
    refine ⟨fun b o e => (hs2.2 b (bB b o e).2).trans (k1 b o (bB b o e).1), nB2 a k2, ?_, oe, vs, T, oT, ts, hea, hz, hd, h1', nB2 T hnT, hTe, hTa, hdT, h3⟩
    exact funFrames_none (Heap.FunFrames.sameBut hs2 hn2 k3) fun b hb => nB2 b (by
      obtain ⟨e0, he0, hf0⟩ := List.mem_filterMap.mp hb
      exact (k3.mem (List.mem_filterMap.mpr ⟨e0, he0, hf0⟩)).1)
  unfold PySem.passOn
  refine wpAny_bind (wpAny_field hea hd h1' ?_)
  rw [if_neg (show ¬ ((Value.ref T == Value.none) = true) from by simp)]
  rw [hce, hfr]
  refine wpAny_bind (HandSPX.setFlight_onZ hh2 fun h3 hh3 up3 => ?_)
  refine wpAny_throw ?_
  refine tW _ _ ⟨a, B2, { sI with heap := G2 }, pins, σ, H', cls, d, rfl, I7, fun b o e hb => ?_, fun b o e hnf => ?_, .inr (.inr (by rw [hst]; exact hh3)), na, os.trans eos.symm, ag, hE⟩
  · obtain ⟨e1, q⟩ := gG b o e
    rw [b1 b (by simp [q])]
    exact nb b o e1 hb
  · obtain ⟨e1, q⟩ := gG b o e
    obtain ⟨sl1, e2⟩ := up b o e1 hnf
    obtain ⟨sl2, e3⟩ := up1 b _ e2 hnf
    have e4 : h2.get? b = some { o with slots := sl2 } := (hs2.2 b q).trans e3
    obtain ⟨sl3, e5⟩ := up3 b { o with slots := sl2 } e4 hnf
    exact ⟨sl3, e5⟩
/-- the comprehension's block, where a call in the element may raise (lc_core of HandS.Comp, turned to it) -/
theorem lc_coreX {W : WX} {Q : VK} {elt tg iter : Expr} {ifs : List Expr} {scope : Scope} {own : List (Str × Nat)} {pos : Pos} {wi : TI} {g : TG} {tt : TT} {te : TE}
    (tW : Takes X W) (hst : X.stack = X.env :: X.outer) (hfr : X.env.frame = some X.env.locals)
    (hc : X.calm = true) (hN : X.N.Nodup) (I : Inv X pins σ H s) (hi : PI X tg iter wi) (ok : BlkOk X.N X.env.scope scope own)
    (hg : ∀ (s : Shared) (H : Hp) (C : Addr) (cl : List (Str × Addr)) (fp : List Addr), PG (X.blk s H scope (compEnvC scope cl C X.env) fp) tg g) (ht : ∀ (s : Shared) (H : Hp) (C : Addr) (cl : List (Str × Addr)) (fp : List Addr), PTs (X.blk s H scope (compEnvC scope cl C X.env) fp) ifs tt)
    (he : ∀ (s : Shared) (H : Hp) (C : Addr) (cl : List (Str × Addr)) (fp : List Addr) (xe : Value → Shared → Prop), Hop X W σ s H scope (compEnvC scope cl C X.env) fp xe → PE ((X.blk s H scope (compEnvC scope cl C X.env) fp).wish xe) elt te) (hs : ∀ x, foldedSetIterable iter X.env x = pure x)
    (h : tLc wi g tt te (own.map (·.2)) σ H Q) :
    wpAny (model X.prog X.w) X.A (eval (.ListComp elt [⟨tg, iter, ifs, 0⟩] scope pos) X.env) (EP X pins σ Q) X.xe s := by
  have hfree : ∀ y ∈ scope.names, y.2 = .free → ∃ c, X.env.cells.lookup y.1 = some c := fun y hy e => by
    rcases ok.free y hy e with k | k
    · exact I.ok.has _ (.inl k)
    · exact I.ok.has _ (.inr k)
  rw [eval_ListComp]
  refine comprehension_at (use := none) rfl hs (closure_ok hfree) ok.kind (fun y hy e => by rw [ok.uniq y hy, e])
    (thn (hi.run pins s σ H _ I h) fun xv s1 hx => thn hx fun itv s2 h2 => ?_)
  obtain ⟨it, fp, tn, J, H2, e, I2, T, st2, f2, q⟩ := h2
  subst e
  refine wpAny_newObj_type (newEnv_comp ?_) (by show 0 ≤ sizeLine; decide)
  generalize hD : s2.heap.objs.size = D
  have hDn : H2 D = none := I2.hok.fresh (Nat.le_of_eq hD)
  obtain ⟨Wl, ⟨m0, w0⟩, turn⟩ := q D hDn
  generalize hs3 : ({ s2 with heap := s2.heap.push { cls := .type "list", data := .seq ([] : List Value).toArray } } : Shared) = s3
  have I3 : Inv X pins σ (upd H2 D (.lst [])) s3 := by
    rw [← hs3]
    refine I2.laid (t' := s2.toks) (fun b o e => Heap.get?_push_of_some _ e) (Nat.le_of_eq hD) ⟨Nat.zero_le _, [], 0, .nil, ?_⟩
    rw [← hD]
    exact Heap.get?_push_size _ rfl
  have h3 : s3.heap = s2.heap.push { cls := .type "list", data := .seq ([] : List Value).toArray } := by rw [← hs3]
  have sz : ∀ b ∈ fp, b < s2.heap.objs.size := fun b hb => by
    obtain ⟨o, e, _⟩ := T.obj _ _ st2 b hb
    exact Heap.lt_size e
  have f3 : ∀ b ∈ fp, FpOk X pins (upd H2 D (.lst [])) b ∧ b < s3.heap.objs.size := fun b hb => by
    have hlt := sz b hb
    refine ⟨⟨?_, (f2 b hb).2⟩, by rw [h3, Heap.size_push]; exact Nat.lt_succ_of_lt hlt⟩
    rw [upd_ne (by rw [← hD]; exact Nat.ne_of_lt hlt)]
    exact (f2 b hb).1
  have st3 : tn 0 s3.heap := T.keep _ _ _ st2 fun b _ o e => by rw [h3]; exact Heap.get?_push_of_some _ e
  have I4 := block_start I3 ok hN f3
  have pg := hg s3 (upd H2 D (.lst [])) s3.heap.objs.size (cellsFrom (s3.heap.objs.size + 1) scope.names (cloFrom X.env.cells scope.names [])) fp
  have pt := ht s3 (upd H2 D (.lst [])) s3.heap.objs.size (cellsFrom (s3.heap.objs.size + 1) scope.names (cloFrom X.env.cells scope.names [])) fp
  have pe := he s3 (upd H2 D (.lst [])) s3.heap.objs.size (cellsFrom (s3.heap.objs.size + 1) scope.names (cloFrom X.env.cells scope.names [])) fp _
    (hop_ok tW hst hfr I3 (scope := scope) (ce := compEnvC scope (cellsFrom (s3.heap.objs.size + 1) scope.names (cloFrom X.env.cells scope.names [])) s3.heap.objs.size X.env) (fp := fp) rfl (Heap.get?_none_of_le (Nat.le_refl _))
      (fun b hb => ⟨(f3 b hb).1.2.2.2.1, (f3 b hb).1.2.1, (f3 b hb).1.2.2.2.2.1, (f3 b hb).1.2.2.2.2.2⟩) fun b hb => Nat.ne_of_lt (f3 b hb).2)
  show codeAny _ _ (.compStart (.ListComp elt [⟨tg, iter, ifs, 0⟩] scope pos) 0 (.ref it) (.ref D) (compEnvC scope (cellsFrom (s3.heap.objs.size + 1) scope.names (cloFrom X.env.cells scope.names [])) s3.heap.objs.size X.env)) (compEnds (model X.prog X.w) X.A X.xe none (EP X pins σ Q) (.ref D) (compEnvC scope (cellsFrom (s3.heap.objs.size + 1) scope.names (cloFrom X.env.cells scope.names [])) s3.heap.objs.size X.env)) { s3 with heap := pushCells (s3.heap.push { cls := .type "dict", data := .dict #[] }) scope.names }
  have nfp : ∀ b ∈ fp, (upd H2 D (.lst [])) b = none := fun b hb => (f3 b hb).1.1
  generalize hce : compEnvC scope (cellsFrom (s3.heap.objs.size + 1) scope.names (cloFrom X.env.cells scope.names [])) s3.heap.objs.size X.env = ce at I4 pg pt pe ⊢
  have cL : ce.locals = s3.heap.objs.size := by subst hce; rfl
  generalize hH3 : upd H2 D (.lst []) = H3 at I3 I4 pg pt pe w0 nfp f3
  generalize hs4 : ({ s3 with heap := pushCells (s3.heap.push { cls := .type "dict", data := .dict #[] }) scope.names } : Shared) = s4 at I4 ⊢
  have st4 : tn 0 s4.heap := T.keep _ _ _ st3 fun b _ o e => by rw [← hs4]; exact pushCells_keeps _ _ _ _ (Heap.get?_push_of_some _ e)
  have stat : ∀ {σ' : L2.St} {H' : Hp} {s' : Shared}, Inv (X.blk s3 H3 scope ce fp) [] σ' H' s' → (∀ b ∈ fp, H' b = none) → ∀ b ∈ fp, FpOk (X.blk s3 H3 scope ce fp) [] H' b := fun {σ' H' s'} I' hn b hb =>
    ⟨hn b hb, (I'.ok.exf b hb).1, I'.ok.exfs b hb, .inl hb, fun x c e => (I'.ok.exf b hb).2 x c e, fun p hp => absurd (show p ∈ ([] : List (Addr × Obj)) ++ [] from hp) (by simp)⟩
  have loop : codeAny (model X.prog X.w) X.A (.compLoop (.ListComp elt [⟨tg, iter, ifs, 0⟩] scope pos) 0 (.ref it) (.ref D) ce) (compEnds (model X.prog X.w) X.A X.xe none (EP X pins σ Q) (.ref D) ce) s4 := by
    refine compLoop_any (fun n s' => ∃ i H', Inv (X.blk s3 H3 scope ce fp) [] (wipe σ (own.map (·.2))) H' s' ∧ tn i s'.heap ∧ (∀ b ∈ fp, H' b = none) ∧ Wl i n H') ?_ m0 ⟨0, H3, I4, st4, nfp, w0⟩
    rintro n s5 ⟨i, H5, I5, st5, n5, w5⟩
    rcases turn i n H5 w5 with ⟨stop, qq⟩ | ⟨go, Nx, hNx, step⟩
    · have td := T.done (X.blk s3 H3 scope ce fp) rfl rfl rfl hc i [] s5 _ H5 (fun _ _ => False) I5 (stat I5 n5) st5 stop
      refine thnF td fun r s6 ⟨hr, I6⟩ => ?_
      subst hr
      have I7 : Inv X pins σ H5 s6 := I3.call' (ch := fp) I6.os I6.base I6.hok I6.bare fun b hb => ⟨(f3 b hb).1.2.2.2.1, (f3 b hb).1.2.1, (f3 b hb).1.2.2.2.2.1, (f3 b hb).1.2.2.2.2.2⟩
      have nC : H5 s3.heap.objs.size = none := by
        have z : H5 ce.locals = none := I6.free
        rw [cL] at z
        exact z
      obtain ⟨m, hn, _⟩ := I6.loc
      have hn : s6.heap.Ns ce.locals m := hn
      refine ⟨m, hn, fun h'' sb => ?_⟩
      obtain ⟨f0, f1, f2', f3', f4, f5⟩ := I3.fpOk (Nat.le_refl _) nC
      rw [cL] at sb
      exact ⟨.ref D, H5, I7.turned (t' := s6.toks) (fun b o hb e => (sb.2 b hb).trans e) f0 f1 f3' f4 f5, rfl, qq⟩
    · have ti := T.item (X.blk s3 H3 scope ce fp) rfl rfl rfl hc i [] s5 _ H5 (fun _ _ => False) I5 (stat I5 n5) st5 go
      refine thnF ti fun r s6 ⟨u, hr, h6⟩ => ?_
      subst hr
      refine thnF h6 fun _ s7 ⟨x, H7, I7, r7, y7, st7, n7⟩ => ?_
      have I7' := I7.pinned (stat I7 n7) (T.obj _ _ st7)
      refine thnF (pg.run _ s7 _ H7 x u _ I7' r7 (step x H7 y7)) fun _ s8 ⟨σ8, H8, I8, hw8, q8⟩ => ?_
      refine thnF (pt.run _ s8 σ8 H8 _ I8 q8) fun b s9 ⟨H9, I9, q9⟩ => ?_
      have fin : ∀ {s' : Shared} {H' : Hp}, Inv (X.blk s3 H3 scope ce fp) ([] ++ pinsAt fp s7.heap) σ8 H' s' → Nx H' → ∃ m, m < n ∧ ∃ i H', Inv (X.blk s3 H3 scope ce fp) [] (wipe σ (own.map (·.2))) H' s' ∧ tn i s'.heap ∧ (∀ b ∈ fp, H' b = none) ∧ Wl i m H' := fun {s' H'} I' nx => by
        obtain ⟨m', hm, w'⟩ := hNx H' nx
        have pin' : ∀ b ∈ fp, ∀ o, s7.heap.get? b = some o → s'.heap.get? b = some o ∧ H' b = none := fun b hb o e =>
          let z := I'.pin (b, o) (List.mem_append_right _ (List.mem_append_right _ (mem_pinsAt hb e)))
          ⟨z.1, z.2.1⟩
        have hl : (wipe σ (own.map (·.2))).length = σ8.length := by rw [← hw8, wipe_length]
        refine ⟨m', hm, i + 1, H', (I'.unpinned (pins := [])).weak hl (fun j v e => ?_), T.keep _ _ _ st7 fun b hb o e => (pin' b hb o e).1, fun b hb => ?_, w'⟩
        · rw [← hw8] at e
          exact (wipe_some e).1
        · obtain ⟨o, e, _⟩ := T.obj _ _ st7 b hb
          exact (pin' b hb o e).2
      cases b with
      | false =>
        simp only [Bool.false_eq_true, if_false] at q9 ⊢
        exact fin I9 q9
      | true =>
        simp only [if_true] at q9 ⊢
        refine thn (pe.run _ s9 σ8 H9 _ (I9.wish _) q9) fun z s10 ⟨yv, H10, I10, r10, acc, hD10, hz10, nx⟩ => ?_
        exact wpAny_mono (app_ok (X := X.blk s3 H3 scope ce fp) I10.unwish hD10 hz10 r10 fun s11 I11 => fin I11 nx) (fun _ _ q => q) fun _ _ z => False.elim z
  exact codeAny_compStart_list loop (T.self X.A 0 _ _ _ st4 loop)
end
/-! the rule -/
/-- what a call may let out is taken, at slots and cells -/
def TkC (X : Cy) (Ψ : Addr → List Str → List D → Rho → Mu → Prop) : Prop := ∃ W : WX, (∀ (pins : List (Addr × Obj)) (σ : L2.St) (H : Hp) (s : Shared) (e : Value) (s' : Shared), Inv X pins σ H s → L2.CX X.prog X.w X.stack H s (fun cls d H2 => W cls d σ H2) e s' → X.xe e s') ∧ ∀ C d ks vs F σ H ρ μ, Ψ C ks vs ρ μ → ExR X.K F d ks vs → Hs X.K F μ H → Sl X.K F ρ σ → W (.ref C) d σ H
section
variable {X : Cy} {e : Expr} {es : List Expr} {ρ : Rho} {μ : Mu} {Φ : D → Mu → Prop} {pos p : Pos} {Ψ : Addr → List Str → List D → Rho → Mu → Prop} {elt tg iter : Expr} {ifs : List Expr}
theorem w_callXC {x : Str} {k k0 : Nat} {ps : List Str} {S : FX} (G : KnX X.prog X.w X.K X.mg X.base k x ps S) (tk : TkC X Ψ) (hr : Rm k0 X.A) (h : wA X (e :: es) ρ μ fun ds μ1 => S ds μ1 Φ fun C ks vs μ2 => Ψ C ks vs ρ μ2) (hk : k ≤ k0 := by decide) (hg : Gl X x := by rfl) (hdb : (x == ("__debug__" : Str)) = false := by decide)
    (he : starEach (e :: es) X.env = (false, eval e X.env) :: starEach es X.env := by rfl) (hpl : (backTo pos (starEach es X.env)).any (·.1) = false := by rfl) : wE X (.Call (.Name x p) (e :: es) [] pos) ρ μ Φ := by
  obtain ⟨f, fd, hm, kp, hb, G⟩ := G.ex
  obtain ⟨W, tW, hW⟩ := tk
  have P1 : PE X (.Call (.Name x p) (e :: es) [] pos) fun σ H Q => sA X (e :: es) σ H fun vs H1 => spX X.K S vs H1 Q fun cls d H2 => W cls d σ H2 := ⟨fun pins s σ H Q I h => wpAny_Call_Name_kw (ld_glob I hg hm
    (PySem.W.callWith_K (h₀ := X.base) I.ok.mod.kin kp (thn (pa_s.run pos pins s σ H _ I h) fun us s1 ⟨vs, H1, I1, r, q⟩ => ⟨I1.kIn, fnX_run G (hr.le hk) hb (fun e s' c => tW pins σ H1 s1 e s' I1 c) I1 r q⟩) he hpl) hdb)⟩
  exact fun F σ H hs sl Q kt => se_of P1 (h F σ H hs sl _ fun xs F1 H1 ds μ1 q e1 hs1 r1 => ⟨X.g, F1, ds, μ1, Φ, _, hs1, r1, q, kt.mono e1, fun C d ks vs F2 H2 μ2 z x2 e2 hs2 => hW C d ks vs F2 σ H2 ρ μ2 z x2 hs2 (sl.mono (e1.trans e2))⟩)
/-- the contexts of a block whose element may raise -/
abbrev blkX (X : Cy) (scope : Scope) (s : Shared) (H : Hp) (C : Addr) (cl : List (Str × Addr)) (fp : List Addr) (xe : Value → Shared → Prop) (g : Hp) : Cy := ⟨(X.c.blk s H scope (compEnvC scope cl C X.env) fp).wish xe, g⟩
def LcQX (X : Cy) (elt : Expr) (ifs : List Expr) (scope : Scope) (t : Tg) (vs : List Nat) (ρ : Rho) (Ψ : Addr → List Str → List D → Rho → Mu → Prop) (Φ : D → Mu → Prop) (its : List D) (μ1 : Mu) : Prop :=
  its.length ≤ 1000000 ∧ ∃ Iv : Nat → List D → Mu → Prop, Iv 0 [] μ1 ∧
    (∀ p i x acc μ2, its[i]? = some x → Iv i acc μ2 → ∃ ρ', t.put x (wipeR ρ vs) = some ρ' ∧ ∀ s H C cl fp, wTs (blkE X scope s H C cl fp) ifs ρ' ((p, .lst acc) :: μ2) fun k μ4 =>
      (k = true → ∀ s H C cl fp xe g, TkC (blkX X scope s H C cl fp xe g) (fun C ks vs _ μ => Ψ C ks vs ρ μ) → wE (blkX X scope s H C cl fp xe g) elt ρ' μ4 fun d μ5 => ∃ μ6, μ5 = (p, .lst acc) :: μ6 ∧ Iv (i + 1) (acc ++ [d]) μ6) ∧ (k = false → ∃ μ6, μ4 = (p, .lst acc) :: μ6 ∧ Iv (i + 1) acc μ6)) ∧
    (∀ p acc μ2, Iv its.length acc μ2 → Φ (.ptr p) ((p, .lst acc) :: μ2))
def sEX (X : Cy) (W : WX) (σ0 : L2.St) (scope : Scope) (elt : Expr) : TE := fun σ H Q => ∀ s H' C cl fp xe, Hop X W σ0 s H' scope (compEnvC scope cl C X.env) fp xe → ∀ g, sE (blkX X scope s H' C cl fp xe g) elt σ H Q
theorem lc_tX {W : WX} (hW : ∀ C d ks vs F σ H ρ μ, Ψ C ks vs ρ μ → ExR X.K F d ks vs → Hs X.K F μ H → Sl X.K F ρ σ → W (.ref C) d σ H) {scope : Scope} {t : Tg} {vs : List Nat} (hv : ∀ j ∈ t.slots, j ∈ vs) (h : wI X tg iter ρ μ fun its μ1 => LcQX X elt ifs scope t vs ρ Ψ Φ its μ1) {F : Hp} {σ : L2.St} {H : Hp} (hs : Hs X.K F μ H) (sl : Sl X.K F ρ σ) {Q : VK} (kt : Kont X.K F Φ Q) :
    tLc (sI X tg iter) (t.g X.K) (sTsF X scope ifs) (sEX X W σ scope elt) vs σ H Q := by
  refine h F σ H hs sl _ fun J its F1 μ1 H1 ⟨hz, Iv, h0, ht, hd⟩ e1 hs1 wk Dl hD => ?_
  refine ⟨fun i m H' => m = its.length - i ∧ i ≤ its.length ∧ ∃ F' acc μ', Ex F1 F' ∧ Hs X.K F' ((Dl, .lst acc) :: μ') H' ∧ acc.length ≤ i ∧ Iv i acc μ', ⟨its.length, by simp, Nat.zero_le _, F1, [], μ1, Ex.refl _, hs1.cell hD (.lst .nil), Nat.le_refl _, h0⟩, ?_⟩
  rintro i m H' ⟨rfl, hi, F', acc, μ', e2, hs2, hl, iv⟩
  obtain ⟨w1, w2, w3⟩ := wk i F' _ H' e2 hs2
  by_cases hlt : i < its.length
  · refine .inr ⟨w1 hlt, fun H3 => ∃ F3 acc3 μ3, Ex F1 F3 ∧ Hs X.K F3 ((Dl, .lst acc3) :: μ3) H3 ∧ acc3.length ≤ i + 1 ∧ Iv (i + 1) acc3 μ3, fun H3 q => ⟨its.length - (i + 1), by omega, rfl, hlt, q⟩, fun x H3 hy => ?_⟩
    have hx : its[i]? = some its[i] := List.getElem?_eq_getElem hlt
    obtain ⟨F3, e3, hs3, r3⟩ := w3 x H3 _ hy hx
    obtain ⟨ρ', hp, ht⟩ := ht Dl i _ acc μ' hx iv
    refine Tg.run hs3 ((sl.mono (e1.trans (e2.trans e3))).wipeL vs) r3 hv hp fun σ' hw sl' => ⟨hw, fun s' H' C cl fp => ?_⟩
    refine (ht s' H' C cl fp).go hs3 sl' fun k F4 H4 μ4 q4 e4 hs4 => ?_
    cases k with
    | true =>
      rw [if_pos rfl]
      intro s' H' C cl fp xe hop g
      have hs4' : Hs ⟨X.c.K, F4⟩ F4 μ4 H4 := hs4.regr (Ex.refl F4)
      have tk : TkC (blkX X scope s' H' C cl fp xe F4) (fun C ks vs _ μ => Ψ C ks vs ρ μ) := ⟨fun cls d _ H2 => W cls d σ H2, fun pins σ2 H2 s2 e s3 I c => hop pins σ2 H2 s2 e s3 I c, fun C d ks vs F5 σ5 H5 ρ5 μ5 q x5 hs5 sl5 =>
        hW C d ks vs F5 σ H5 ρ μ5 q x5 (hs5.regr (hs4.gr.trans hs5.gr)) (sl.mono (e1.trans (e2.trans (e3.trans (e4.trans hs5.gr)))))⟩
      refine fun pins s9 I9 => ?_
      refine (show sE (blkX X scope s' H' C cl fp xe F4) elt σ' H4 _ from q4.1 rfl s' H' C cl fp xe F4 tk F4 σ' H4 hs4' (sl'.mono e4) _ fun v F5 H5 d μ5 ⟨μ6, h6, iv6⟩ e5 hs5 r5 => ?_) pins s9 I9
      subst h6
      obtain ⟨xs, hx5, rx5⟩ := hs5.lst (i := 0) rfl
      refine ⟨xs, hx5, Nat.lt_of_le_of_lt ?_ (show 1000000 < sizeLine by decide), F5, acc ++ [d], μ6, e2.trans (e3.trans (e4.trans e5)), (hs5.write (i := 0) rfl (.lst (rx5.append (.one r5)))).regr (hs4.gr.trans e5), ?_, iv6⟩
      · rw [rx5.length]
        omega
      · rw [List.length_append]
        exact Nat.succ_le_succ hl
    | false =>
      rw [if_neg Bool.false_ne_true]
      obtain ⟨μ6, h6, iv6⟩ := q4.2 rfl
      subst h6
      exact ⟨F4, acc, μ6, e2.trans (e3.trans e4), hs4, Nat.le_succ_of_le hl, iv6⟩
  · have he : i = its.length := by omega
    subst he
    exact .inl ⟨w2 rfl, kt _ F' H' _ _ (hd Dl acc μ' iv) (e1.trans e2) hs2 (.ptr Dl)⟩
/-- [elt for tg in iter if ..], where a call in elt may raise -/
theorem w_lcX {scope : Scope} {own : List (Str × Nat)} (t : Tg) (tk : Tk X Ψ) (hst : X.stack = X.env :: X.outer) (hfr : X.env.frame = some X.env.locals) (hv : ∀ j ∈ t.slots, j ∈ own.map (·.2)) (hc : X.calm = true) (hN : X.N.Nodup) (ok : BlkOk X.N X.env.scope scope own)
    (hg : ∀ s H C cl fp, PG (blkE X scope s H C cl fp) tg (t.g X.K)) (h : wI X tg iter ρ μ fun its μ1 => LcQX X elt ifs scope t (own.map (·.2)) ρ Ψ Φ its μ1) (hs : ∀ x, foldedSetIterable iter X.env x = pure x := by intro _; rfl) :
    wE X (.ListComp elt [⟨tg, iter, ifs, 0⟩] scope pos) ρ μ Φ := fun F σ H hh sl Q kt => by
  obtain ⟨W, tW, hW⟩ := tk
  have q := lc_tX (elt := elt) (ifs := ifs) (tg := tg) (iter := iter) hW hv h hh sl kt
  refine fun pins s I => lc_coreX tW hst hfr hc hN I pi_s ok hg (fun s H C cl fp => ⟨fun pins s' σ H Q I q => q s _ C cl fp pins s' I⟩) (fun s H C cl fp xe hop => ⟨fun pins s' σ H Q I q => q s _ C cl fp xe hop X.g pins s' I⟩) hs q
/-- every item's element is told: g x, or it raises -/
theorem lcqx_map {scope : Scope} {t : Tg} {vs : List Nat} {its : List D} {μ1 : Mu} {α : Type} (l : List α) (f : α → D) (g : α → D) (he : its = l.map f) (hl : l.length ≤ 1000000) (Iv : Nat → Mu → Prop) (h0 : Iv 0 μ1)
    (ht : ∀ (p : Addr) (i : Nat) (x : α) μ2, l[i]? = some x → Iv i μ2 → ∃ ρ', t.put (f x) (wipeR ρ vs) = some ρ' ∧ ∀ s H C cl fp xe gr, TkC (blkX X scope s H C cl fp xe gr) (fun C ks vs _ μ => Ψ C ks vs ρ μ) → wE (blkX X scope s H C cl fp xe gr) elt ρ' ((p, .lst ((l.take i).map g)) :: μ2) fun d μ5 => d = g x ∧ ∃ μ6, μ5 = (p, .lst ((l.take i).map g)) :: μ6 ∧ Iv (i + 1) μ6)
    (hd : ∀ p μ2, Iv l.length μ2 → Φ (.ptr p) ((p, .lst (l.map g)) :: μ2)) : LcQX X elt [] scope t vs ρ Ψ Φ its μ1 := by
  subst he
  refine ⟨by rw [List.length_map]; exact hl, fun i acc μ2 => acc = (l.take i).map g ∧ Iv i μ2, ⟨rfl, h0⟩, ?_, ?_⟩
  · rintro p i x acc μ2 hx ⟨rfl, iv⟩
    obtain ⟨y, hy, rfl⟩ := map_get' hx
    obtain ⟨ρ', h1, h2⟩ := ht p i y μ2 hy iv
    refine ⟨ρ', h1, fun _ _ _ _ _ => ⟨fun _ s H C cl fp xe gr tk => w_mono (h2 s H C cl fp xe gr tk) ?_, fun hb => (nomatch hb)⟩⟩
    rintro d μ5 ⟨rfl, μ6, rfl, iv6⟩
    exact ⟨μ6, rfl, by rw [filter_next hy, List.map_append]; rfl, iv6⟩
  · rintro p acc μ2 ⟨rfl, iv⟩
    rw [List.length_map] at iv ⊢
    rw [List.take_of_length_le (Nat.le_refl _)]
    exact hd p μ2 iv
end
/-! constants in a display, at one step (the elaborator reads a goal as a type, and constants are read through) -/
def litsOf : List Expr → Option (List D)
  | [] => some []
  | .Constant (.int i) _ _ :: r => (litsOf r).map fun l => .int i :: l
  | .Constant (.str x) _ _ :: r => (litsOf r).map fun l => .str x :: l
  | .Constant .none _ _ :: r => (litsOf r).map fun l => .non :: l
  | .Constant (.bool b) _ _ :: r => (litsOf r).map fun l => .bl b :: l
  | _ => none
theorem wa_ks {X : Cy} {ρ : Rho} {μ : Mu} : ∀ {es : List Expr} {ds : List D} {Φ : List D → Mu → Prop}, litsOf es = some ds → Φ ds μ → wA X es ρ μ Φ
  | [], ds, Φ, h, k => by
    cases h
    exact wa_nil k
  | .Constant (.int i) j p :: r, ds, Φ, h, k => by
    obtain ⟨l, hl, rfl⟩ := Option.map_eq_some_iff.mp (show (litsOf r).map (fun l => D.int i :: l) = some ds from h)
    exact wa_cons (w_int (wa_ks (Φ := fun es μ2 => Φ (.int i :: es) μ2) hl k))
  | .Constant (.str x) j p :: r, ds, Φ, h, k => by
    obtain ⟨l, hl, rfl⟩ := Option.map_eq_some_iff.mp (show (litsOf r).map (fun l => D.str x :: l) = some ds from h)
    exact wa_cons (w_str (wa_ks (Φ := fun es μ2 => Φ (.str x :: es) μ2) hl k))
  | .Constant .none j p :: r, ds, Φ, h, k => by
    obtain ⟨l, hl, rfl⟩ := Option.map_eq_some_iff.mp (show (litsOf r).map (fun l => D.non :: l) = some ds from h)
    exact wa_cons (w_non (wa_ks (Φ := fun es μ2 => Φ (.non :: es) μ2) hl k))
  | .Constant (.bool b) j p :: r, ds, Φ, h, k => by
    obtain ⟨l, hl, rfl⟩ := Option.map_eq_some_iff.mp (show (litsOf r).map (fun l => D.bl b :: l) = some ds from h)
    exact wa_cons (w_bl (wa_ks (Φ := fun es μ2 => Φ (.bl b :: es) μ2) hl k))
end Oc

/-! Own layer: repr of data with dicts in it, beside lists. -/
namespace Oc
open PySem PySem.Spec L2
open Evl (Ex)
def keyP : Key → PyData
  | .inl i => .int i
  | .inr x => .str x
mutual
inductive ShwD (μ : Mu) : D → PyData → Prop
  | non : ShwD μ .non .none
  | bl (b : Bool) : ShwD μ (.bl b) (.bool b)
  | int (i : Int) : ShwD μ (.int i) (.int i)
  | str (x : Str) : ShwD μ (.str x) (.str x)
  | tup {ds : List D} {ys : List PyData} : ShwDs μ ds ys → ShwD μ (.tup ds) (.tuple ys)
  | tpl {ds : List D} {ys : List PyData} : ShwDs μ ds ys → ShwD μ (.tpl ds) (.tuple ys)
  | lst {ds : List D} {ys : List PyData} : ShwDs μ ds ys → ShwD μ (.lst ds) (.list ys)
  | scr {ds : List D} {ys : List PyData} : ShwDs μ ds ys → ShwD μ (.scr ds) (.list ys)
  | ptr {q : Addr} {i : Nat} {ds : List D} {ys : List PyData} : μ[i]? = some (q, .lst ds) → ShwDs μ ds ys → ShwD μ (.ptr q) (.list ys)
  | dk {q : Addr} {i : Nat} {l : List (Key × D)} {ys : List PyData} : μ[i]? = some (q, .dk l) → ShwDs μ (l.map fun e => e.2) ys → ShwD μ (.ptr q) (.dict ((l.map fun e => keyP e.1).zip ys))
  | dt {q : Addr} {i : Nat} {l : List (List Key × D)} {ys : List PyData} : μ[i]? = some (q, .dt l) → ShwDs μ (l.map fun e => e.2) ys → ShwD μ (.ptr q) (.dict ((l.map fun e => PyData.tuple (e.1.map keyP)).zip ys))
inductive ShwDs (μ : Mu) : List D → List PyData → Prop
  | nil : ShwDs μ [] []
  | cons {d : D} {ds : List D} {y : PyData} {ys : List PyData} : ShwD μ d y → ShwDs μ ds ys → ShwDs μ (d :: ds) (y :: ys)
end
theorem ShwDs.length {μ : Mu} : ∀ {ds : List D} {ys : List PyData}, ShwDs μ ds ys → ys.length = ds.length
  | _, _, .nil => rfl
  | _, _, .cons _ h => by rw [List.length_cons, List.length_cons, h.length]
theorem zip_fst {α β : Type} : ∀ {a : List α} {b : List β}, b.length = a.length → (a.zip b).map (·.1) = a
  | [], [], _ => rfl
  | x :: a, y :: b, h => by
    rw [List.zip_cons_cons, List.map_cons, zip_fst (by simpa using h)]
theorem zip_snd {α β : Type} : ∀ {a : List α} {b : List β}, b.length = a.length → (a.zip b).map (·.2) = b
  | [], [], _ => rfl
  | x :: a, y :: b, h => by
    rw [List.zip_cons_cons, List.map_cons, zip_snd (by simpa using h)]
theorem repk_vals {K : PySem.W.Frag} {F : Hp} : ∀ {l : List (Key × D)} {kvs : List (Key × V)}, RepK K F l kvs → Reps K F (kvs.map fun e => e.2) (l.map fun e => e.2)
  | _, _, .nil => .nil
  | _, _, .cons h r => .cons h.2 (repk_vals r)
theorem kv_vals : ∀ {kvs : List (Key × V)} {vs : List (Key × Value)}, KV kvs vs → Vals (kvs.map fun e => e.2) (vs.map fun e => e.2)
  | _, _, .nil => .nil
  | _, _, .cons h r => .cons h.2 (kv_vals r)
theorem pairs_vals {P : Program} {w : World} : ∀ {es : List DictEntry} {vs : List (Key × Value)}, Pairs (mixKind P w) es vs → es.map (·.val) = vs.map fun e => e.2
  | _, _, .nil => rfl
  | _, _, .cons _ h r => by rw [List.map_cons, List.map_cons, pairs_vals r, h]
theorem rept_vals {K : PySem.W.Frag} {F : Hp} : ∀ {l : List (List Key × D)} {kvs : List (List Key × V)}, RepK K F l kvs → Reps K F (kvs.map fun e => e.2) (l.map fun e => e.2)
  | _, _, .nil => .nil
  | _, _, .cons h r => .cons h.2 (rept_vals r)
theorem kt_vals {H : Hp} : ∀ {kvs : List (List Key × V)} {vs : List (List Key × Addr × Value)}, KT H kvs vs → Vals (kvs.map fun e => e.2) (vs.map fun e => e.2.2)
  | _, _, .nil => .nil
  | _, _, .cons h r => .cons h.2.2 (kt_vals r)
mutual
/-- what a value shows, each dict among it no table of modules -/
inductive ReadsQ (h : Heap) : Value → PyData → Prop
  | none : ReadsQ h .none .none
  | bool (b) : ReadsQ h (.bool b) (.bool b)
  | int (i t) : ReadsQ h (.int i t) (.int i)
  | str (x t) : ReadsQ h (.str x t) (.str x)
  | list {a o vs n xs} : h.get? a = some o → o.cls = .type "list" → o.data = .seq vs n → ReadsAllQ h vs.toList xs → ReadsQ h (.ref a) (.list xs)
  | tuple {a o vs n xs} : h.get? a = some o → o.cls = .type "tuple" → o.data = .seq vs n → ReadsAllQ h vs.toList xs → ReadsQ h (.ref a) (.tuple xs)
  | dict {a o es n kvs} : h.get? a = some o → o.cls = .type "dict" → o.data = .dict es n → (a == sysModules) = false → ReadsAllQ h (es.toList.map (·.key)) (kvs.map (·.1)) →
      ReadsAllQ h (es.toList.map (·.val)) (kvs.map (·.2)) → ReadsQ h (.ref a) (.dict kvs)
inductive ReadsAllQ (h : Heap) : List Value → List PyData → Prop
  | nil : ReadsAllQ h [] []
  | cons {v vs d ds} : ReadsQ h v d → ReadsAllQ h vs ds → ReadsAllQ h (v :: vs) (d :: ds)
end
mutual
theorem ReadsQ.reads {h : Heap} : ∀ {v : Value} {d : PyData}, ReadsQ h v d → ∃ as, Reads h v d as
  | _, _, .none => ⟨_, .none⟩
  | _, _, .bool b => ⟨_, .bool b⟩
  | _, _, .int i t => ⟨_, .int i t⟩
  | _, _, .str x t => ⟨_, .str x t⟩
  | _, _, .list h1 h2 h3 h4 => let ⟨_, r⟩ := h4.reads; ⟨_, .list h1 h2 h3 r⟩
  | _, _, .tuple h1 h2 h3 h4 => let ⟨_, r⟩ := h4.reads; ⟨_, .tuple h1 h2 h3 r⟩
  | _, _, .dict h1 h2 h3 _ h4 h5 => let ⟨_, r⟩ := h4.reads; let ⟨_, t⟩ := h5.reads; ⟨_, .dict h1 h2 h3 r t⟩
theorem ReadsAllQ.reads {h : Heap} : ∀ {vs : List Value} {ds : List PyData}, ReadsAllQ h vs ds → ∃ as, ReadsAll h vs ds as
  | _, _, .nil => ⟨_, .nil⟩
  | _, _, .cons r rs => let ⟨_, a⟩ := r.reads; let ⟨_, b⟩ := rs.reads; ⟨_, .cons a b⟩
end
section
variable {prog : Program} {w : World} {h₀ : Heap}
mutual
theorem reprQ : ∀ {v : Value} {d : PyData}, ReadsQ h₀ v d → d.showable = true → d.shown.length ≤ sizeLine → ∃ bs, ReadAtMost h₀ d.depth bs ∧ ReprK prog w bs h₀ d.depth v d.shown
  | _, _, .none, _, _ => ⟨[], (fun _ h => nomatch h), by simp only [PyData.shown]; exact .of_is ReprIs.none _ _ _⟩
  | _, _, .bool b, _, _ => ⟨[], (fun _ h => nomatch h), by simp only [PyData.shown]; exact .of_is (ReprIs.bool b) _ _ _⟩
  | _, _, .int i t, hs, _ => ⟨[], (fun _ h => nomatch h), by simp only [PyData.shown]; exact .of_is (ReprIs.int t (by simpa [PyData.showable] using hs)) _ _ _⟩
  | _, _, .str x t, _, hz => ⟨[], (fun _ h => nomatch h), by simp only [PyData.shown]; exact .of_is (ReprIs.str x t (by simpa only [PyData.shown] using hz)) _ _ _⟩
  | _, _, .list (a := a) (vs := vs) (xs := xs) h1 h2 h3 h4, hs, hz => by
    have hq : (listText (PyData.shownAll xs)).length ≤ sizeLine := by simpa only [PyData.shown] using hz
    obtain ⟨bs, hb, hk⟩ := reprAllQ h4 (by simpa [PyData.showable] using hs) (fun t ht => Nat.le_trans (listText_mem_le ht) hq)
    obtain ⟨_, ra⟩ := h4.reads
    have hna : a ∉ bs := not_mem_of_deeper (.list h1 h2 h3 ra) (by simp only [PyData.depth]; omega) hb
    refine ⟨a :: bs, ReadAtMost.cons (.list h1 h2 h3 ra) (by simp only [PyData.depth]; omega) hb, ?_⟩
    simp only [PyData.depth, PyData.shown]
    obtain ⟨l⟩ := vs
    cases l with
    | nil =>
      have h5 : ReadsAllQ h₀ [] xs := h4
      cases h5
      simp only [PyData.shownAll, listText_nil]
      exact ReprK.listEmpty h1 h2 h3
    | cons x l => exact ReprK.list h1 h2 h3 hna (by simpa using hk.length_eq) (fun i y e => hk.item i y (by simpa using e))
  | _, _, .tuple (a := a) (xs := xs) h1 h2 h3 h4, hs, hz => by
    have hq : (tupleText (PyData.shownAll xs)).length ≤ sizeLine := by simpa only [PyData.shown] using hz
    obtain ⟨bs, hb, hk⟩ := reprAllQ h4 (by simpa [PyData.showable] using hs) (fun t ht => Nat.le_trans (tupleText_mem_le ht) hq)
    obtain ⟨_, ra⟩ := h4.reads
    have hna : a ∉ bs := not_mem_of_deeper (.tuple h1 h2 h3 ra) (by simp only [PyData.depth]; omega) hb
    refine ⟨a :: bs, ReadAtMost.cons (.tuple h1 h2 h3 ra) (by simp only [PyData.depth]; omega) hb, ?_⟩
    simp only [PyData.depth, PyData.shown]
    exact ReprK.tuple h1 h2 h3 hna hk
  | _, _, .dict (a := a) (es := es) (kvs := kvs) h1 h2 h3 hm h4 h5, hs, hz => by
    have hq : (dictText (PyData.shownKv kvs)).length ≤ sizeLine := by simpa only [PyData.shown] using hz
    obtain ⟨hs1, hs2⟩ := PyData.showableKv_split kvs (by simpa [PyData.showable] using hs)
    obtain ⟨b1, hb1, k1⟩ := reprAllQ h4 hs1 (fun t ht => let ⟨p, hp, hl⟩ := PyData.shownKv_key_le kvs t ht; Nat.le_trans hl (Nat.le_trans (dictText_mem_le hp) hq))
    obtain ⟨b2, hb2, k2⟩ := reprAllQ h5 hs2 (fun t ht => let ⟨p, hp, hl⟩ := PyData.shownKv_val_le kvs t ht; Nat.le_trans hl (Nat.le_trans (dictText_mem_le hp) hq))
    obtain ⟨_, r1⟩ := h4.reads
    obtain ⟨_, r2⟩ := h5.reads
    have r : Reads h₀ (.ref a) (.dict kvs) _ := .dict h1 h2 h3 r1 r2
    have hb : ReadAtMost h₀ (PyData.depthKv kvs) (b1 ++ b2) := (hb1.mono (PyData.depthAll_keys_le kvs)).append (hb2.mono (PyData.depthAll_vals_le kvs))
    have hna : a ∉ b1 ++ b2 := not_mem_of_deeper r (by simp only [PyData.depth]; omega) hb
    refine ⟨a :: (b1 ++ b2), ReadAtMost.cons r (by simp only [PyData.depth]; omega) hb, ?_⟩
    simp only [PyData.depth, PyData.shown, PyData.shownKv_eq]
    exact ReprK.dict h1 h2 h3 hm hna (ReprEntriesK.of_two es.toList _ _
      (k1.more_le (fun b hb => List.mem_append_left _ hb) (PyData.depthAll_keys_le kvs)) (k2.more_le (fun b hb => List.mem_append_right _ hb) (PyData.depthAll_vals_le kvs)))
theorem reprAllQ : ∀ {vs : List Value} {ds : List PyData}, ReadsAllQ h₀ vs ds → PyData.showableAll ds = true → (∀ t ∈ PyData.shownAll ds, t.length ≤ sizeLine) →
    ∃ bs, ReadAtMost h₀ (PyData.depthAll ds) bs ∧ ReprAllK prog w bs h₀ (PyData.depthAll ds) vs (PyData.shownAll ds)
  | _, _, .nil, _, _ => ⟨[], (fun _ h => nomatch h), by simp only [PyData.shownAll]; exact .nil⟩
  | _, _, .cons (d := d) (ds := ds) r rs, hs, hz => by
    have hx : d.showable = true ∧ PyData.showableAll ds = true := by simpa [PyData.showableAll] using hs
    obtain ⟨b1, hb1, k1⟩ := reprQ r hx.1 (hz _ (by simp only [PyData.shownAll]; exact List.mem_cons_self ..))
    obtain ⟨b2, hb2, k2⟩ := reprAllQ rs hx.2 (fun t ht => hz t (by simp only [PyData.shownAll]; exact List.mem_cons_of_mem _ ht))
    refine ⟨b1 ++ b2, ?_, ?_⟩
    · intro b hm
      simp only [PyData.depthAll]
      rcases List.mem_append.mp hm with hm | hm
      · obtain ⟨u, as, q, hd⟩ := hb1 b hm
        exact ⟨u, as, q, Nat.le_trans hd (Nat.le_max_left _ _)⟩
      · obtain ⟨u, as, q, hd⟩ := hb2 b hm
        exact ⟨u, as, q, Nat.le_trans hd (Nat.le_max_right _ _)⟩
    · simp only [PyData.depthAll, PyData.shownAll]
      exact .cons ((k1.more fun b hb => List.mem_append_left _ hb).level_le (Nat.le_max_left _ _)) (k2.more_le (fun b hb => List.mem_append_right _ hb) (Nat.le_max_right _ _))
end
variable {a : Addr} {d : PyData}
theorem showsQ (r : ReadsQ h₀ (.ref a) d) (hs : d.showable = true) (hz : d.shown.length ≤ sizeLine) : ∃ T idr, ShowsBy prog w h₀ a d T idr := by
  cases r with
  | list h1 h2 h3 h4 =>
    rename_i o vs n xs
    have hq : (listText (PyData.shownAll xs)).length ≤ sizeLine := by simpa only [PyData.shown] using hz
    obtain ⟨bs, hb, hk⟩ := reprAllQ (prog := prog) (w := w) h4 (by simpa [PyData.showable] using hs) (fun t ht => Nat.le_trans (listText_mem_le ht) hq)
    obtain ⟨_, ra⟩ := h4.reads
    have hna : a ∉ bs := not_mem_of_deeper (.list h1 h2 h3 ra) (by simp only [PyData.depth]; omega) hb
    refine ⟨"list", "list.__repr__", F.slot_list_repr.toG, F.slot_list_str, F.slot_list_format, fun s hk0 => ⟨o, hk0 _ _ h1, h2⟩, fun A E s Q hg hu hk0 hQ => ?_⟩
    simp only [PyData.depth] at hu
    simp only [PyData.shown] at hQ
    obtain ⟨l⟩ := vs
    cases l with
    | nil =>
      have h5 : ReadsAllQ h₀ [] xs := h4
      cases h5
      simp only [PyData.shownAll, listText_nil] at hQ
      exact call_list_repr_empty ⟨o, hk0 _ _ h1, h2⟩ (hk0 _ _ h1) h3 (hQ s.heap _ _ fun _ _ e => e)
    | cons x l =>
      exact call_list_reprK h1 h2 h3 hna (by simpa using hk.length_eq) (fun i y e => hk.item i y (by simpa using e)) hg (fun b _ => Clear.nil b) hu hk0 hQ hq
  | tuple h1 h2 h3 h4 =>
    rename_i o vs n xs
    have hq : (tupleText (PyData.shownAll xs)).length ≤ sizeLine := by simpa only [PyData.shown] using hz
    obtain ⟨bs, hb, hk⟩ := reprAllQ (prog := prog) (w := w) h4 (by simpa [PyData.showable] using hs) (fun t ht => Nat.le_trans (tupleText_mem_le ht) hq)
    obtain ⟨_, ra⟩ := h4.reads
    have hna : a ∉ bs := not_mem_of_deeper (.tuple h1 h2 h3 ra) (by simp only [PyData.depth]; omega) hb
    refine ⟨"tuple", "tuple.__repr__", F.slot_tuple_repr, F.slot_tuple_str, F.slot_tuple_format, fun s hk0 => ⟨o, hk0 _ _ h1, h2⟩, fun A E s Q hg hu hk0 hQ => ?_⟩
    simp only [PyData.depth] at hu
    simp only [PyData.shown] at hQ
    exact call_tuple_reprK h1 h2 h3 hna hk hg (fun b _ => Clear.nil b) hu hk0 hQ hq
  | dict h1 h2 h3 hm h4 h5 =>
    rename_i o es n kvs
    have hq : (dictText (PyData.shownKv kvs)).length ≤ sizeLine := by simpa only [PyData.shown] using hz
    obtain ⟨hs1, hs2⟩ := PyData.showableKv_split kvs (by simpa [PyData.showable] using hs)
    obtain ⟨b1, hb1, k1⟩ := reprAllQ (prog := prog) (w := w) h4 hs1 (fun t ht => let ⟨p, hp, hl⟩ := PyData.shownKv_key_le kvs t ht; Nat.le_trans hl (Nat.le_trans (dictText_mem_le hp) hq))
    obtain ⟨b2, hb2, k2⟩ := reprAllQ (prog := prog) (w := w) h5 hs2 (fun t ht => let ⟨p, hp, hl⟩ := PyData.shownKv_val_le kvs t ht; Nat.le_trans hl (Nat.le_trans (dictText_mem_le hp) hq))
    obtain ⟨_, r1⟩ := h4.reads
    obtain ⟨_, r2⟩ := h5.reads
    have hb : ReadAtMost h₀ (PyData.depthKv kvs) (b1 ++ b2) := (hb1.mono (PyData.depthAll_keys_le kvs)).append (hb2.mono (PyData.depthAll_vals_le kvs))
    have hna : a ∉ b1 ++ b2 := not_mem_of_deeper (.dict h1 h2 h3 r1 r2) (by simp only [PyData.depth]; omega) hb
    refine ⟨"dict", "dict.__repr__", F.slot_dict_repr, F.slot_dict_str, F.slot_dict_format, fun s hk0 => ⟨o, hk0 _ _ h1, h2⟩, fun A E s Q hg hu hk0 hQ => ?_⟩
    simp only [PyData.depth] at hu
    simp only [PyData.shown, PyData.shownKv_eq] at hQ
    exact call_dict_reprK h1 h2 h3 hm hna (ReprEntriesK.of_two es.toList _ _
      (k1.more_le (fun b hb => List.mem_append_left _ hb) (PyData.depthAll_keys_le kvs)) (k2.more_le (fun b hb => List.mem_append_right _ hb) (PyData.depthAll_vals_le kvs))) hg (fun b _ => Clear.nil b) hu hk0 hQ (by rw [← PyData.shownKv_eq]; exact hq)
variable {A : Around} {E : Value → Shared → Prop} {s : Shared} {Q : Value → Shared → Prop}
theorem repr_ofQ (r : ReadsQ h₀ (.ref a) d) (hs : d.showable = true) (hz : d.shown.length ≤ sizeLine) (hg : A.guards = some []) (hu : A.units + (d.depth + 1) < cLine) (hk0 : ∀ b o, h₀.get? b = some o → s.heap.get? b = some o)
    (hQ : ∀ h' u tk, (∀ b o, s.heap.get? b = some o → h'.get? b = some o) → Q (.str d.shown u) { s with heap := h', toks := tk }) : wpAny (model prog w) A (call (.builtin "repr") [.ref a]) Q E s := by
  obtain ⟨T, idr, S⟩ := showsQ (prog := prog) (w := w) r hs hz
  exact call_repr_slot (by omega) (S.typeIs s hk0) S.slotRepr (S.call A.in1 E s _ hg (by show A.units + 1 + d.depth < cLine; omega) hk0 fun h' u tk hk => ⟨_, _, rfl, hQ h' u tk hk⟩)
end
theorem pairs_keys {P : Program} {w : World} {K : PySem.W.Frag} {F : Hp} {h : Heap} : ∀ {l : List (Key × D)} {kvs : List (Key × V)} {vs : List (Key × Value)} {es : List DictEntry}, RepK K F l kvs → KV kvs vs → Pairs (mixKind P w) es vs → ReadsAllQ h (es.map (·.key)) (l.map fun e => keyP e.1)
  | _, _, _, _, .nil, .nil, .nil => .nil
  | _, _, _, _, .cons (a := a) (b := b) h1 r1, .cons (b := c) h2 r2, .cons (e := e) h3 _ r3 => by
    have ih := pairs_keys (h := h) r1 r2 r3
    have e1 : c.1 = a.1 := h2.1.symm.trans h1.1.symm
    have h3 : keyIs c.1 e.key = true := h3
    rw [e1] at h3
    have rd : ReadsQ h e.key (keyP a.1) := by
      rcases keyIs_shape h3 with ⟨i, t, h4, h5⟩ | ⟨x, t, h4, h5⟩
      · rw [h4, h5]; exact .int i t
      · rw [h4, h5]; exact .str x t
    exact .cons rd ih
section
variable {X : Cy} {pins : List (Addr × Obj)} {σ : L2.St} {H F : Hp} {s : Shared} {μ : Mu}
theorem key_reads {h : Heap} : ∀ {k : List Key} {us : List Value}, Vals (k.map kV) us → ReadsAllQ h us (k.map keyP)
  | [], _, .nil => .nil
  | .inl i :: k, _, .cons r rr => by
    obtain ⟨t, rfl⟩ := r
    exact .cons (.int i t) (key_reads rr)
  | .inr x :: k, _, .cons r rr => by
    obtain ⟨t, rfl⟩ := r
    exact .cons (.str x t) (key_reads rr)
theorem tkeys_reads (I : Inv X pins σ H s) {K : PySem.W.Frag} {F : Hp} : ∀ {l : List (List Key × D)} {kvs : List (List Key × V)} {ks : List (List Key × Addr × Value)}, RepK K F l kvs → KT H kvs ks → ReadsAllQ s.heap (ks.map fun x => Value.ref x.2.1) (l.map fun e => PyData.tuple (e.1.map keyP))
  | _, _, _, .nil, .nil => .nil
  | _, _, _, .cons (a := a) (b := b) h1 r1, .cons h2 r2 => by
    refine .cons ?_ (tkeys_reads I r1 r2)
    obtain ⟨its, rv, ⟨o, ho, hc, n, hd⟩, _⟩ := I.tuple (.inl (.inl h2.2.1))
    have e1 : a.1 = b.1 := h1.1
    show ReadsQ s.heap (Value.ref _) (PyData.tuple (a.1.map keyP))
    rw [e1]
    exact .tuple ho hc hd (key_reads rv)
mutual
theorem shwD_reads (I : Inv X pins σ H s) (hs : Hs X.K F μ H) : ∀ {d : D} {y : PyData}, ShwD μ d y → ∀ {v : V} {u : Value}, Rep X.K F v d → RelV v u → ReadsQ s.heap u y
  | _, _, .non, _, _, .non, r => by cases r; exact .none
  | _, _, .bl b, _, _, .bl _, r => by cases r; exact .bool b
  | _, _, .int i, _, _, .int _, r => by obtain ⟨t, rfl⟩ := r; exact .int i t
  | _, _, .str x, _, _, .str _, r => by obtain ⟨t, rfl⟩ := r; exact .str x t
  | _, _, .tup h, _, _, .tup g rr, r => by
    cases r
    obtain ⟨its, rv, ⟨o, ho, hc, n, hd⟩, _⟩ := I.tuple (Evl.st_of (hs.ex _ _ g))
    exact .tuple ho hc hd (shwDs_reads I hs h rr rv)
  | _, _, .tpl h, _, _, .tpl g _ _ rr, r => by
    cases r
    obtain ⟨its, rv, ⟨o, ho, hc, n, hd⟩, _⟩ := I.tuple (.inl (.inr ⟨_, hs.ex _ _ g⟩))
    exact .tuple ho hc hd (shwDs_reads I hs h rr rv)
  | _, _, .lst h, _, _, .lst g rr, r => by
    cases r
    obtain ⟨its, rv, ⟨o, n, ho, hc, _, hd⟩, _⟩ := I.list (Evl.sq_of (hs.ex _ _ g))
    exact .list ho hc hd (shwDs_reads I hs h rr rv)
  | _, _, .scr h, _, _, .scr g rr, r => by
    cases r
    obtain ⟨its, rv, ⟨o, n, ho, hc, _, hd⟩, _⟩ := I.list (Evl.ex_l hs.ex g)
    exact .list ho hc hd (shwDs_reads I hs h rr rv)
  | _, _, .ptr hi h, _, _, .ptr _, r => by
    cases r
    obtain ⟨xs, g, rr⟩ := hs.cellAt hi
    obtain ⟨its, rv, ⟨o, n, ho, hc, _, hd⟩, _⟩ := I.list (Evl.sq_of g)
    exact .list ho hc hd (shwDs_reads I hs h rr rv)
  | _, _, .dk (l := l) hi h, _, _, .ptr _, r => by
    cases r
    obtain ⟨kvs, hH, rk⟩ := hs.dk hi
    obtain ⟨_, hsm, vs, kv, o, es, ep, ho, hx, hd, _, hp, _⟩ := dk_of I.hok hH
    have hv := pairs_vals hp
    have hb := shwDs_reads I hs h (repk_vals rk) (kv_vals kv)
    have hl := h.length
    refine ReadsQ.dict ho hx.1 hd hsm ?_ ?_
    · rw [zip_fst (by rw [hl, List.length_map, List.length_map])]
      exact pairs_keys rk kv hp
    · rw [zip_snd (by rw [hl, List.length_map, List.length_map]), hv]
      exact hb
  | _, _, .dt (l := l) hi h, _, _, .ptr _, r => by
    cases r
    obtain ⟨kvs, hH, rk⟩ := hs.dt hi
    obtain ⟨z, hsm, ks, pr, o, es, ep, ho, hx, hd, he, hn⟩ := (show ObjOk X.c.prog X.c.w H s.heap _ (.dT kvs) from Rd.ok (Or.inl hH) I.hok)
    have hb := shwDs_reads I hs h (rept_vals rk) (kt_vals pr)
    have hl := h.length
    have hes : es.toList = ks.map (entryOfKey (tupleKind (mixKind X.c.prog X.c.w))) := List.ext_getElem? fun j => by rw [List.getElem?_map, Array.getElem?_toList]; exact entry_at he j
    refine ReadsQ.dict ho hx.1 hd hsm ?_ ?_
    · rw [zip_fst (by rw [hl, List.length_map, List.length_map]), hes, List.map_map]
      exact tkeys_reads I rk pr
    · rw [zip_snd (by rw [hl, List.length_map, List.length_map]), hes, List.map_map]
      exact hb
theorem shwDs_reads (I : Inv X pins σ H s) (hs : Hs X.K F μ H) : ∀ {ds : List D} {ys : List PyData}, ShwDs μ ds ys → ∀ {vs : List V} {us : List Value}, Reps X.K F vs ds → Vals vs us → ReadsAllQ s.heap us ys
  | _, _, .nil, _, _, .nil, .nil => .nil
  | _, _, .cons h hh, _, _, .cons r rr, .cons q qq => .cons (shwD_reads I hs h r q) (shwDs_reads I hs hh rr qq)
end
end
section
variable {X : Cy} {μ : Mu} {Φ : D → Mu → Prop}
/-- repr(d), dicts among it -/
theorem c_reprD {d : D} (y : PyData) {k0 : Nat} (hr : Rm k0 X.A) (hd : ShwD μ d y) (hsh : y.showable = true) (hz : y.shown.length ≤ sizeLine) (hdep : y.depth ≤ 60) (k : Φ (.str y.shown) μ) : wCl X (.builtin "repr") [d] μ Φ := by
  intro F H xs hs r1 Q kt pins s σ us I rv
  cases r1 with
  | cons r rr =>
  cases rr
  have hu := hr.units
  have q0 := kt.now k hs (.str y.shown)
  obtain ⟨u, rfl, r2⟩ := vals1 rv
  have rd := shwD_reads I hs hd r r2
  cases rd with
  | none => exact PySem.P.repr_of_none ⟨.str _, H, I.tok _, ⟨_, rfl⟩, by simpa only [PyData.shown] using q0⟩
  | bool b => exact PySem.P.repr_of_bool ⟨.str _, H, I.tok _, ⟨_, rfl⟩, by simpa only [PyData.shown] using q0⟩
  | int i t => exact PySem.P.repr_of_int (by simpa [PyData.showable] using hsh) ⟨.str _, H, I.tok _, ⟨_, rfl⟩, by simpa only [PyData.shown] using q0⟩
  | str x t => exact PySem.P.repr_of_str ⟨.str _, H, I.tok _, ⟨_, rfl⟩, by simpa only [PyData.shown] using q0⟩ (by simpa only [PyData.shown] using hz)
  | list h1 h2 h3 h4 => exact repr_ofQ (.list h1 h2 h3 h4) hsh hz hr.g (by omega) (fun _ _ e => e) (fun h' u tk hk => ⟨.str _, H, I.kept hk, ⟨_, rfl⟩, q0⟩)
  | tuple h1 h2 h3 h4 => exact repr_ofQ (.tuple h1 h2 h3 h4) hsh hz hr.g (by omega) (fun _ _ e => e) (fun h' u tk hk => ⟨.str _, H, I.kept hk, ⟨_, rfl⟩, q0⟩)
  | dict h1 h2 h3 hm h4 h5 => exact repr_ofQ (.dict h1 h2 h3 hm h4 h5) hsh hz hr.g (by omega) (fun _ _ e => e) (fun h' u tk hk => ⟨.str _, H, I.kept hk, ⟨_, rfl⟩, q0⟩)
end
/-! ### small data, dicts among them -/
mutual
theorem leaves_mono {B C : Nat} (h : B ≤ C) : ∀ y : PyData, y.leavesShort B = true → y.leavesShort C = true
  | .none, _ => rfl
  | .bool _, _ => rfl
  | .int i, k => by
    simp only [PyData.leavesShort, decide_eq_true_eq] at k ⊢
    exact Nat.le_trans k h
  | .str x, k => by simpa only [PyData.leavesShort] using k
  | .list xs, k => by
    simp only [PyData.leavesShort] at k ⊢
    exact leavesAll_mono h xs k
  | .tuple xs, k => by
    simp only [PyData.leavesShort] at k ⊢
    exact leavesAll_mono h xs k
  | .dict kvs, k => by
    simp only [PyData.leavesShort] at k ⊢
    exact leavesKv_mono h kvs k
theorem leavesAll_mono {B C : Nat} (h : B ≤ C) : ∀ ys : List PyData, PyData.leavesShortAll B ys = true → PyData.leavesShortAll C ys = true
  | [], _ => rfl
  | y :: ys, k => by
    simp only [PyData.leavesShortAll, Bool.and_eq_true] at k ⊢
    exact ⟨leaves_mono h y k.1, leavesAll_mono h ys k.2⟩
theorem leavesKv_mono {B C : Nat} (h : B ≤ C) : ∀ ys : List (PyData × PyData), PyData.leavesShortKv B ys = true → PyData.leavesShortKv C ys = true
  | [], _ => rfl
  | (a, b) :: ys, k => by
    simp only [PyData.leavesShortKv, Bool.and_eq_true] at k ⊢
    exact ⟨⟨leaves_mono h a k.1.1, leaves_mono h b k.1.2⟩, leavesKv_mono h ys k.2⟩
end
structure Td (y : PyData) (b d : Nat) : Prop where
  sh : y.showable = true
  lv : y.leavesShort 50 = true
  bk : y.bulk ≤ b
  dp : y.depth ≤ d
structure Tds (ys : List PyData) (b d : Nat) : Prop where
  sh : PyData.showableAll ys = true
  lv : PyData.leavesShortAll 50 ys = true
  bk : PyData.bulkAll ys ≤ b
  dp : PyData.depthAll ys ≤ d
theorem Td.mono {y : PyData} {b d b' d' : Nat} (h : Td y b d) (hb : b ≤ b') (hd : d ≤ d') : Td y b' d' := ⟨h.sh, h.lv, Nat.le_trans h.bk hb, Nat.le_trans h.dp hd⟩
theorem Tds.mono {y : List PyData} {b d b' d' : Nat} (h : Tds y b d) (hb : b ≤ b') (hd : d ≤ d') : Tds y b' d' := ⟨h.sh, h.lv, Nat.le_trans h.bk hb, Nat.le_trans h.dp hd⟩
theorem Tm.td {y : PyData} {b d : Nat} (h : Tm y b d) : Td y b d := ⟨h.sh, leaves_mono (by decide) y h.lv, h.bk, h.dp⟩
theorem Tds.nil : Tds [] 0 0 := ⟨rfl, rfl, Nat.le_refl _, Nat.le_refl _⟩
theorem Tds.cons {y : PyData} {ys : List PyData} {b c d e : Nat} (h : Td y b d) (t : Tds ys c e) : Tds (y :: ys) (b + 1 + c) (max d e) :=
  ⟨by simp only [PyData.showableAll, h.sh, t.sh, Bool.and_self], by simp only [PyData.leavesShortAll, h.lv, t.lv, Bool.and_self],
    by simp only [PyData.bulkAll]; have := h.bk; have := t.bk; omega, by simp only [PyData.depthAll]; have := h.dp; have := t.dp; omega⟩
theorem Tds.all {b d : Nat} : ∀ {ys : List PyData}, (∀ y ∈ ys, Td y b d) → Tds ys ((b + 1) * ys.length) d
  | [], _ => Tds.nil.mono (Nat.le_refl _) (Nat.zero_le _)
  | y :: ys, h => by
    refine (Tds.cons (h y List.mem_cons_self) (Tds.all fun z hz => h z (List.mem_cons_of_mem _ hz))).mono ?_ (by omega)
    rw [List.length_cons, Nat.mul_succ]
    omega
theorem Td.tup {ys : List PyData} {b d : Nat} (h : Tds ys b d) : Td (.tuple ys) b (d + 1) :=
  ⟨by simp only [PyData.showable]; exact h.sh, by simp only [PyData.leavesShort]; exact h.lv, by simp only [PyData.bulk]; exact h.bk, by simp only [PyData.depth]; have := h.dp; omega⟩
theorem Td.lst {ys : List PyData} {b d : Nat} (h : Tds ys b d) : Td (.list ys) b (d + 1) :=
  ⟨by simp only [PyData.showable]; exact h.sh, by simp only [PyData.leavesShort]; exact h.lv, by simp only [PyData.bulk]; exact h.bk, by simp only [PyData.depth]; have := h.dp; omega⟩
theorem Td.dict0 : Td (.dict []) 0 1 := ⟨rfl, rfl, Nat.le_refl _, Nat.le_refl _⟩
theorem Td.dict1 {a y : PyData} {b c d e : Nat} (h : Td a b d) (t : Td y c e) : Td (.dict [(a, y)]) (b + c + 2) (max d e + 1) :=
  ⟨by simp only [PyData.showable, PyData.showableKv, h.sh, t.sh, Bool.and_self], by simp only [PyData.leavesShort, PyData.leavesShortKv, h.lv, t.lv, Bool.and_self],
    by simp only [PyData.bulk, PyData.bulkKv]; have := h.bk; have := t.bk; omega, by simp only [PyData.depth, PyData.depthKv]; have := h.dp; have := t.dp; omega⟩
theorem Td.fits {y : PyData} {b d : Nat} (h : Td y b d) (hb : b ≤ 300000) : y.shown.length ≤ sizeLine := by
  have h1 := PyData.shown_le_bulk 50 (by decide) y h.lv
  have h2 := h.bk
  rw [sizeLine_eq]
  omega
mutual
theorem ShwD.of {μ : Mu} : ∀ {d : D} {y : PyData}, Shw μ d y → ShwD μ d y
  | _, _, .non => .non
  | _, _, .bl b => .bl b
  | _, _, .int i => .int i
  | _, _, .str x => .str x
  | _, _, .tup h => .tup (ShwDs.of h)
  | _, _, .tpl h => .tpl (ShwDs.of h)
  | _, _, .lst h => .lst (ShwDs.of h)
  | _, _, .scr h => .scr (ShwDs.of h)
  | _, _, .ptr hi h => .ptr hi (ShwDs.of h)
theorem ShwDs.of {μ : Mu} : ∀ {ds : List D} {ys : List PyData}, Shws μ ds ys → ShwDs μ ds ys
  | _, _, .nil => .nil
  | _, _, .cons h hh => .cons (ShwD.of h) (ShwDs.of hh)
end
mutual
/-- what was shown is shown when cells are laid behind -/
theorem ShwD.app {μ ν : Mu} : ∀ {d : D} {y : PyData}, ShwD μ d y → ShwD (μ ++ ν) d y
  | _, _, .non => .non
  | _, _, .bl b => .bl b
  | _, _, .int i => .int i
  | _, _, .str x => .str x
  | _, _, .tup h => .tup h.app
  | _, _, .tpl h => .tpl h.app
  | _, _, .lst h => .lst h.app
  | _, _, .scr h => .scr h.app
  | _, _, .ptr hi h => .ptr (by rw [List.getElem?_append_left (List.getElem?_eq_some_iff.mp hi).1]; exact hi) h.app
  | _, _, .dk hi h => .dk (by rw [List.getElem?_append_left (List.getElem?_eq_some_iff.mp hi).1]; exact hi) h.app
  | _, _, .dt hi h => .dt (by rw [List.getElem?_append_left (List.getElem?_eq_some_iff.mp hi).1]; exact hi) h.app
theorem ShwDs.app {μ ν : Mu} : ∀ {ds : List D} {ys : List PyData}, ShwDs μ ds ys → ShwDs (μ ++ ν) ds ys
  | _, _, .nil => .nil
  | _, _, .cons h hh => .cons h.app hh.app
end
mutual
/-- and when one is laid ahead -/
theorem ShwD.lay {μ : Mu} {c : Addr × MO} : ∀ {d : D} {y : PyData}, ShwD μ d y → ShwD (c :: μ) d y
  | _, _, .non => .non
  | _, _, .bl b => .bl b
  | _, _, .int i => .int i
  | _, _, .str x => .str x
  | _, _, .tup h => .tup h.lay
  | _, _, .tpl h => .tpl h.lay
  | _, _, .lst h => .lst h.lay
  | _, _, .scr h => .scr h.lay
  | _, _, .ptr (i := i) hi h => .ptr (i := i + 1) hi h.lay
  | _, _, .dk (i := i) hi h => .dk (i := i + 1) hi h.lay
  | _, _, .dt (i := i) hi h => .dt (i := i + 1) hi h.lay
theorem ShwDs.lay {μ : Mu} {c : Addr × MO} : ∀ {ds : List D} {ys : List PyData}, ShwDs μ ds ys → ShwDs (c :: μ) ds ys
  | _, _, .nil => .nil
  | _, _, .cons h hh => .cons h.lay hh.lay
end
theorem ShwDs.each {μ : Mu} {b d : Nat} : ∀ {ds : List D}, (∀ x ∈ ds, ∃ y, ShwD μ x y ∧ Td y b d) → ∃ ys, ShwDs μ ds ys ∧ ys.length = ds.length ∧ ∀ y ∈ ys, Td y b d
  | [], _ => ⟨[], .nil, rfl, fun y hy => nomatch hy⟩
  | x :: ds, h => by
    obtain ⟨y, h1, h2⟩ := h x List.mem_cons_self
    obtain ⟨ys, h3, h4, h5⟩ := ShwDs.each fun z hz => h z (List.mem_cons_of_mem _ hz)
    exact ⟨y :: ys, .cons h1 h3, by rw [List.length_cons, List.length_cons, h4], fun z hz => (List.mem_cons.mp hz).elim (fun e => by rw [e]; exact h2) (h5 z)⟩
section
variable {X : Cy} {μ : Mu} {Φ : D → Mu → Prop}
/-- repr of small data, dicts among it -/
theorem c_reprTd {d : D} (y : PyData) {k0 b e : Nat} (hr : Rm k0 X.A) (hd : ShwD μ d y) (t : Td y b e) (k : Φ (.str y.shown) μ) (hb : b ≤ 300000 := by decide) (he : e ≤ 60 := by decide) : wCl X (.builtin "repr") [d] μ Φ :=
  c_reprD y hr hd t.sh (t.fits hb) (Nat.le_trans t.dp he) k
end
end Oc

/-! Own layer: dict(pairs) with keys twice, enumerate over a cell, isinstance of a dict with tuple keys. -/
namespace Oc
open PySem PySem.Spec L2
open Evl (Ex)
open PyProof.Rows (IsTup IntsAre)
section
variable {X : Cy}
/-- pairs put one behind the other -/
def putsV : List (List Key × V) → List (List Key × V) → List (List Key × V)
  | t, [] => t
  | t, e :: es => putsV (putK t e.1 e.2) es
def putsD : List (List Key × D) → List (List Key × D) → List (List Key × D)
  | t, [] => t
  | t, e :: es => putsD (putD t e.1 e.2) es
theorem putK_len (t : List (List Key × V)) (k : List Key) (v : V) : (putK t k v).length ≤ t.length + 1 := by
  unfold putK
  split
  · rw [List.length_map]; omega
  · rw [List.length_append]; exact Nat.le_refl _
theorem putsV_len : ∀ (es t : List (List Key × V)), (putsV t es).length ≤ t.length + es.length
  | [], t => Nat.le_refl _
  | e :: es, t => by
    have := putsV_len es (putK t e.1 e.2)
    have := putK_len t e.1 e.2
    rw [List.length_cons]
    show (putsV (putK t e.1 e.2) es).length ≤ _
    omega
theorem kt_puts {H : Hp} : ∀ {es : List (List Key × V)} {ps : List (List Key × Addr × Value)}, KT H es ps → ∀ {t : List (List Key × V)} {xs : List (List Key × Addr × Value)}, KT H t xs → KT H (putsV t es) (storedAllH xs ps)
  | _, _, .nil, _, _, h => h
  | _, _, .cons (a := a) (b := b) h1 r1, t, xs, h => by
    have e1 : a.1 = b.1 := h1.1
    have h2 := KT.put h a.1 (b := b.2.1) (u := b.2.2) h1.2.1 h1.2.2
    rw [e1] at h2
    show KT H (putsV (putK t a.1 a.2) _) (storedAllH (storedH xs b.1 b.2.1 b.2.2) _)
    rw [e1]
    exact kt_puts r1 h2
theorem repk_puts {K : PySem.W.Frag} {F : Hp} : ∀ {es : List (List Key × D)} {vs : List (List Key × V)}, RepK K F es vs → ∀ {t : List (List Key × D)} {tv : List (List Key × V)}, RepK K F t tv → RepK K F (putsD t es) (putsV tv vs)
  | _, _, .nil, _, _, h => h
  | _, _, .cons (a := a) (b := b) h1 r1, t, tv, h => by
    have e1 : a.1 = b.1 := h1.1
    show RepK K F (putsD (putD t a.1 a.2) _) (putsV (putK tv b.1 b.2) _)
    rw [e1]
    exact repk_puts r1 (h.put h1.2)
/-- dict(xs) of a list of pairs (tuple, value) -/
theorem cr_dictTR (hu : X.c.A.units + 64 < cLine) (hc : X.calm = true) : CallR X (.type "dict") (fun xs H Q => ∃ (a : Addr) (ps : List Addr) (kvs : List (List Key × V)), xs = [.ref a] ∧ SqL X.K H a (ps.map V.ref) ∧ Paired (fun p kv => ∃ b, SqT X.K H p [V.ref b, kv.2] ∧ H b = some (.tup (kv.1.map kV))) ps kvs ∧
    ∀ p, H p = none → Q (.ref p) (upd H p (.dT (putsV [] kvs)))) := by
  intro pins s σ H xs us Q I r q
  obtain ⟨a, ps, kvs, ex, hq, hp, q⟩ := q
  subst ex
  obtain ⟨u, eu, rx⟩ := vals1 r
  subst eu
  cases rx
  obtain ⟨its, rv, pl, hz⟩ := I.list hq
  have ei := refs_at rv
  subst ei
  rw [List.length_map] at hz
  obtain ⟨prs, rel, hl, hpr⟩ := pairsT_of I hp
  obtain ⟨o, n, ho, hc0, hd, hdat⟩ := pl
  refine call_dict_pairsH (knd := tupleKind (mixKind X.prog X.w)) (ps := prs) (PairArg.list a (ps.map Value.ref).toArray (fun j => ps.getD j 0) (prs.map fun q => (Value.ref q.2.1, q.2.2))) (I.ok.hd hc) (by show _ + 1 + 1 < cLine; omega) ⟨⟨o, n, ho, hc0, hd, hdat⟩, ?_⟩ ?_ ?_ (by rw [List.length_map, hl]; exact hz) fun h' tk hd' k => ?_
  · refine ⟨by simp [hl], fun j kk v hj => ?_⟩
    rw [List.getElem?_map] at hj
    obtain ⟨q', hq', e⟩ := Option.map_eq_some_iff.mp hj
    cases e
    obtain ⟨b, e1, e2, _⟩ := hpr j q' hq'
    show _ = some (Value.ref (ps.getD j 0)) ∧ PairAt s.heap (ps.getD j 0) _ _
    rw [List.getD_eq_getElem?_getD, e1]
    exact ⟨by simp [e1], .inl e2⟩
  · refine ⟨by rw [List.length_map], fun i key v hr => ?_⟩
    have hr' : (prs.map fun q => (Value.ref q.2.1, q.2.2))[i]? = some (key, v) := hr
    rw [List.getElem?_map] at hr'
    obtain ⟨q', hq', e⟩ := Option.map_eq_some_iff.mp hr'
    cases e
    exact ⟨q'.1, q'.2.1, hq', rfl⟩
  · intro h' hk x hx
    obtain ⟨j, hj, e⟩ := List.mem_iff_getElem.mp hx
    obtain ⟨b, _, _, e3⟩ := hpr j x (by rw [List.getElem?_eq_getElem hj, e])
    obtain ⟨o2, vs, n2, h1, h2, h3, h4⟩ := e3
    exact ⟨o2, vs, n2, hk _ _ (Nat.ne_of_lt (Heap.lt_size h1)) (fun z => nomatch z) h1, h2, h3, h4⟩
  · have hm : (s.heap.objs.size == sysModules) = false := beq_eq_false_iff_ne.mpr (Nat.ne_of_gt I.big)
    have hlen : (putsV [] kvs).length ≤ sizeLine := by
      have h1 : prs.length = kvs.length := by have := congrArg List.length (kt_keys rel); simpa using this
      have h2 := putsV_len kvs []
      have h3 : ([] : List (List Key × V)).length = 0 := rfl
      omega
    obtain ⟨o', es, ep, g1, g2, g3, g4, _, g5⟩ := hd'
    have hf := I.hok.fresh (Nat.le_refl s.heap.objs.size)
    have rel2 := kt_puts rel (t := []) (xs := []) .nil
    refine ⟨.ref s.heap.objs.size, upd H s.heap.objs.size (.dT (putsV [] kvs)), I.laid (t' := tk) (fun b o e => k b o (fun z => nomatch z) e) (Nat.le_refl _) ⟨hlen, hm, storedAllH [] prs, Paired.mapP rel2 fun p q z => ⟨z.1, ?_, z.2.2⟩, o', es, ep, g1, g2, g3, g4, g5⟩, rfl, q _ hf⟩
    rw [upd_ne (ne_of_none z.2.1 hf)]
    exact z.2.1
end
section
variable {X : Cy} {μ : Mu} {Φ : D → Mu → Prop} {d : D}
theorem c_dictTR {kds : List (List Key × D)} (hu : X.c.A.units + 64 < cLine) (hd : d = .lst (kds.map fun e => .tup [tkD e.1, e.2])) (k : ∀ p, Φ (.ptr p) ((p, .dt (putsD [] kds)) :: μ)) (hc : X.calm = true := by rfl) : wCl X (.type "dict") [d] μ Φ :=
  wcl_of (cr_dictTR hu hc) fun F H vs hs r1 Q kt => by
  subst hd
  cases r1 with
  | cons r rr =>
    cases rr
    cases r with
    | lst g r =>
      obtain ⟨ps, kvs, rfl, h2, h3, h4⟩ := rep_pairs hs.ex r
      exact ⟨_, ps, kvs, rfl, Evl.sq_of (hs.ex _ _ g), h2, fun p hp => kt _ _ _ _ _ (k p) (Ex.refl _) (hs.cell hp (.dt (repk_puts h4 (t := []) (tv := []) .nil))) (.ptr p)⟩
end
section
variable {X : Cy} {e : Expr} {ρ : Rho} {μ : Mu} {pos p : Pos}
/-- enumerate over a cell -/
theorem wi_enumP {tpos : Pos} {elts : List Expr} {kk : Nat} {ΦI : List D → (Mu → Prop) → Mu → Prop} (hm : X.mg "enumerate" = none) (h : wE X e ρ μ fun d μ1 => ∃ q ds, d = .ptr q ∧ (∃ m : Nat, μ1[m]? = some (q, MO.lst ds)) ∧ ΦI (enumD ds) (fun μ' => ∃ m : Nat, μ'[m]? = some (q, MO.lst ds)) μ1) (hg : Gl X "enumerate" := by rfl) (hs : starEach [e] X.env = [(false, eval e X.env)] := by rfl) :
    wIP X (.Tuple elts kk tpos) (.Call (.Name "enumerate" p) [e] [] pos) ρ μ ΦI := fun F σ H hh sl R kt =>
  si_of (pi_enum hg hm (pa_cons pe_s pa_nil hs) hs) (h F σ H hh sl _ fun v F1 H1 d μ1 ⟨q, ds, hd, ⟨m, hmm⟩, z⟩ e1 hs1 r1 => by
    subst hd
    cases r1
    obtain ⟨xs, g, r⟩ := hs1.lst hmm
    refine ⟨q, xs, rfl, Evl.sq_of g, kt _ (enumD ds) _ F1 μ1 H1 z e1 hs1 fun i F' μ' H' e' ⟨m', hm'⟩ hs' => ?_⟩
    obtain ⟨ys, g', r'⟩ := hs'.lst hm'
    rw [enumD_len]
    refine ⟨fun hi => ⟨ys, ys[i]'(by rw [r'.length]; exact hi), Evl.sq_of g', List.getElem?_eq_getElem _⟩, fun hi => ⟨ys, Evl.sq_of g', by rw [r'.length]; exact Nat.le_of_eq hi.symm⟩, fun x H2 d hy hd => ?_⟩
    obtain ⟨T, y, rfl, hT, rfl, fy⟩ := hy
    obtain ⟨x', hx', rfl⟩ := enumD_get hd
    obtain ⟨z2, h1, h2⟩ := r'.get hx'
    cases (fy _ (Evl.sq_of g')).symm.trans h1
    obtain ⟨g1, g2⟩ := hs'.laid (u := .tup [.int (i : Nat), y]) hT
    exact ⟨_, g2, g1, .tup upd_same (.cons (.int _) (.cons (h2.mono g2) .nil))⟩)
theorem c_isiT {X : Cy} {μ : Mu} {Φ : D → Mu → Prop} {n : String} {q : Addr} {l : List (List Key × D)} {k : Bool} (m : Nat) (hm : μ[m]? = some (q, MO.dt l)) (hk : PySem.W.kitOne X.K (.type "dict") (.type n) = some k) (z : Φ (.bl k) μ) : wCl X (.builtin "isinstance") [.ptr q, .ty n] μ Φ :=
  wcl_of call_isi fun F H xs hs r1 Q kt => by
    cases r1 with
    | cons r rr =>
      cases rr with
      | cons r2 rr =>
        cases rr
        cases r2
        cases r
        obtain ⟨vs, g, rx⟩ := hs.dt hm
        exact ⟨_, _, _, _, k, rfl, .ty n, .base (.dT g), hk, kt.now z hs (.bl _)⟩
end
end Oc

namespace L16
open PySem PySem.Spec L2 Oc
open Evl (Ex)
local macro_rules | `(tactic| walk_at "s") => `(tactic| first | assumption | omega | decide | (simp only [] at *; omega))
local macro_rules | `(tactic| walk_at "Add") => `(tactic| first | refine o_addN ?_ | refine o_add ?_ | refine o_addS (by walk_at "s") ?_ | refine o_addT (by walk_at "s") ?_ | refine o_addL (by walk_at "s") ?_)
local macro_rules | `(tactic| walk_at "Sub") => `(tactic| refine o_sub ?_)
local macro_rules | `(tactic| walk_at "Mult") => `(tactic| refine o_mul (by walk_at "s") ?_)
local macro_rules | `(tactic| walk_at "Mod") => `(tactic| first | refine o_modN (by walk_at "s") ?_ | refine o_mod (by walk_at "s") ?_)
local macro_rules | `(tactic| walk_at "FloorDiv") => `(tactic| first | refine o_divN (by walk_at "s") ?_ | refine o_div (by walk_at "s") ?_)
local macro_rules | `(tactic| walk_at "Pow") => `(tactic| refine o_pow (by walk_at "s") ?_)
local macro_rules | `(tactic| walk_at "LShift") => `(tactic| refine o_shl (by walk_at "s") ?_)
local macro_rules | `(tactic| walk_at "RShift") => `(tactic| refine o_shr (by walk_at "s") ?_)
local macro_rules | `(tactic| walk_at "BitAnd") => `(tactic| refine o_band ?_)
local macro_rules | `(tactic| walk_at "BitXor") => `(tactic| refine o_bxor ?_)
local macro_rules | `(tactic| walk_at "BitOr") => `(tactic| refine o_bor ?_)
local macro_rules | `(tactic| walk_at "Lt") => `(tactic| refine o_lt ?_)
local macro_rules | `(tactic| walk_at "LtE") => `(tactic| refine o_le ?_)
local macro_rules | `(tactic| walk_at "Gt") => `(tactic| refine o_gt ?_)
local macro_rules | `(tactic| walk_at "GtE") => `(tactic| refine o_ge ?_)
local macro_rules | `(tactic| walk_at "Eq") => `(tactic| refine o_eq (by rfl) ?_)
local macro_rules | `(tactic| walk_at "NotEq") => `(tactic| refine o_ne (by rfl) ?_)
local macro_rules | `(tactic| walk_at "Is") => `(tactic| refine o_isN ?_)
local macro_rules | `(tactic| walk_at "IsNot") => `(tactic| refine o_notN ?_)
local macro_rules | `(tactic| walk_at "In") => `(tactic| refine o_in (by first | exact .inl rfl | exact .inr (.inl rfl) | exact .inr (.inr rfl)) (by rfl) (by rfl) ?_)
local macro_rules | `(tactic| walk_at "NotIn") => `(tactic| refine o_nin (by first | exact .inl rfl | exact .inr (.inl rfl) | exact .inr (.inr rfl)) (by rfl) (by rfl) ?_)
local macro_rules | `(tactic| walk_at "c_abs") => `(tactic| refine c_abs ?_)
local macro_rules | `(tactic| walk_at "c_len") => `(tactic| first | refine c_lenL ?_ | refine c_lenC ?_ | refine c_lenT ?_ | refine c_lenS (by walk_at "s") ?_ | refine c_lenP 0 (by first | assumption | rfl) ?_)
local macro_rules | `(tactic| walk_at "c_str") => `(tactic| refine c_str (by walk_at "s") ?_)
local macro_rules | `(tactic| walk_at "c_isinstance") => `(tactic| refine c_isi rfl (by rfl) ?_)
local macro_rules | `(tactic| walk_at "sl") => `(tactic| first | refine sd_tup ?_ | refine sd_lst ?_)
local macro_rules | `(tactic| walk_at "c_tuple") => `(tactic| first | refine c_tupL ?_ | refine c_tupP 0 (by first | assumption | rfl) ?_ | refine c_tupT ?_)
local macro_rules | `(tactic| walk_at "c_int") => `(tactic| first | refine c_intB ?_)
local macro_rules | `(tactic| walk_at "USub") => `(tactic| refine u_neg ?_)
local macro_rules | `(tactic| walk_at "pen") => `(tactic| first | assumption | exact get_set (by assumption) | exact get_set (get_set (by assumption)) | exact get_here | (apply get_cons; walk_at "pen") | (apply get_app; walk_at "pen"))
local macro_rules | `(tactic| walk_at "mu") => `(tactic| simp only [List.set_cons_succ, List.set_set, List.set_cons_zero])
def top (i : Nat) : Stmt := PySem.Challenge.pw_opencells_k16_faults_of_pairs.main.body.getD i (.Pass ⟨0, 0, 0, 0⟩)
abbrev s_is_whole : Stmt := top 4
abbrev N_is_whole : List Str := ["thing"]
theorem sc_is_whole : FnScope N_is_whole ["thing"] (defScope s_is_whole) := ⟨rfl, rfl, rfl, by decide +kernel, rfl, by decide +kernel, by decide +kernel⟩
abbrev s_need_alike : Stmt := top 6
abbrev N_need_alike : List Str := ["machine", "other"]
theorem sc_need_alike : FnScope N_need_alike ["machine", "other"] (defScope s_need_alike) := ⟨rfl, rfl, rfl, by decide +kernel, rfl, by decide +kernel, by decide +kernel⟩
abbrev s_is_pair : Stmt := top 7
abbrev N_is_pair : List Str := ["machine", "other", "thing"]
theorem sc_is_pair : FnScope N_is_pair ["machine", "other", "thing"] (defScope s_is_pair) := ⟨rfl, rfl, rfl, by decide +kernel, rfl, by decide +kernel, by decide +kernel⟩
abbrev s_cells_word : Stmt := top 8
abbrev N_cells_word : List Str := ["cell", "beside"]
theorem sc_cells_word : FnScope N_cells_word ["cell", "beside"] (defScope s_cells_word) := ⟨rfl, rfl, rfl, by decide +kernel, rfl, by decide +kernel, by decide +kernel⟩
abbrev s_pair_word : Stmt := top 9
abbrev N_pair_word : List Str := ["machine", "other", "there", "here", "ask", "cell", "beside", "word"]
theorem sc_pair_word : FnScope N_pair_word ["machine", "other", "there", "here", "ask"] (defScope s_pair_word) := ⟨rfl, rfl, rfl, by decide +kernel, rfl, by decide +kernel, by decide +kernel⟩
abbrev s_pairs_fault : Stmt := top 10
abbrev N_pairs_fault : List Str := ["machine", "other", "thing", "here", "there", "k", "ask", "word"]
theorem sc_pairs_fault : FnScope N_pairs_fault ["machine", "other", "thing"] (defScope s_pairs_fault) := ⟨rfl, rfl, rfl, by decide +kernel, rfl, by decide +kernel, by decide +kernel⟩
abbrev s__law_pen : Stmt := top 12
abbrev N__law_pen : List Str := ["_law_script"]
theorem sc__law_pen : FnScope N__law_pen ["_law_script"] (defScope s__law_pen) := ⟨rfl, rfl, rfl, by decide +kernel, rfl, by decide +kernel, by decide +kernel⟩
abbrev s__law_take : Stmt := top 13
abbrev N__law_take : List Str := ["_law_pen_here", "_law_many", "_law_digit", "_law_at", "_law_cell_here", "_law_prime", "_law_number"]
theorem sc__law_take : FnScope N__law_take ["_law_pen_here", "_law_many"] (defScope s__law_take) := ⟨rfl, rfl, rfl, by decide +kernel, rfl, by decide +kernel, by decide +kernel⟩
abbrev s__law_machine : Stmt := top 14
abbrev N__law_machine : List Str := ["_law_pen_here", "_law_asks", "_law_many", "_law_share", "_law_wide", "_law_alike", "_law_shift", "_law_rooms", "_law_room", "_law_cells", "_law_at", "_law_ask"]
theorem sc__law_machine : FnScope N__law_machine ["_law_pen_here", "_law_asks", "_law_many"] (defScope s__law_machine) := ⟨rfl, rfl, rfl, by decide +kernel, rfl, by decide +kernel, by decide +kernel⟩
abbrev s__law_cell : Stmt := top 15
abbrev N__law_cell : List Str := ["_law_pen_here", "_law_share", "_law_wide", "_law_shift", "_law_many", "_law_goes", "_law_answer"]
theorem sc__law_cell : FnScope N__law_cell ["_law_pen_here", "_law_share", "_law_wide", "_law_shift", "_law_many"] (defScope s__law_cell) := ⟨rfl, rfl, rfl, by decide +kernel, rfl, by decide +kernel, by decide +kernel⟩
abbrev s__law_order : Stmt := top 16
abbrev N__law_order : List Str := ["_law_pen_here", "_law_many", "_law_left", "_law_k"]
theorem sc__law_order : FnScope N__law_order ["_law_pen_here", "_law_many"] (defScope s__law_order) := ⟨rfl, rfl, rfl, by decide +kernel, rfl, by decide +kernel, by decide +kernel⟩
abbrev s__law_other : Stmt := top 17
abbrev N__law_other : List Str := ["_law_pen_here", "_law_machine_here", "_law_copies", "_law_fill", "_law_many", "_law_rooms", "_law_k", "_law_cells", "_law_goes", "_law_answer"]
theorem sc__law_other : FnScope N__law_other ["_law_pen_here", "_law_machine_here"] (defScope s__law_other) := ⟨rfl, rfl, rfl, by decide +kernel, rfl, by decide +kernel, by decide +kernel⟩
abbrev s__law_named : Stmt := top 18
abbrev N__law_named : List Str := ["_law_pen_here", "_law_machine_here", "_law_order_here", "_law_k", "_law_rooms", "_law_room", "_law_cells", "_law_there", "_law_goes", "_law_answer", "_law_cell_here"]
theorem sc__law_named : FnScope N__law_named ["_law_pen_here", "_law_machine_here"] (defScope s__law_named) := ⟨rfl, rfl, rfl, by decide +kernel, rfl, by decide +kernel, by decide +kernel⟩
abbrev s__law_spoiled : Stmt := top 19
abbrev N__law_spoiled : List Str := ["_law_pen_here", "_law_machine_here", "_law_way", "_law_many", "_law_room", "_law_ask", "_law_goes", "_law_answer", "_law_to", "_law_cell_here", "_law_cells"]
theorem sc__law_spoiled : FnScope N__law_spoiled ["_law_pen_here", "_law_machine_here"] (defScope s__law_spoiled) := ⟨rfl, rfl, rfl, by decide +kernel, rfl, by decide +kernel, by decide +kernel⟩
abbrev s__law_fails : Stmt := top 20
abbrev N__law_fails : List Str := ["_law_cell_here", "_law_beside"]
theorem sc__law_fails : FnScope N__law_fails ["_law_cell_here", "_law_beside"] (defScope s__law_fails) := ⟨rfl, rfl, rfl, by decide +kernel, rfl, by decide +kernel, by decide +kernel⟩
abbrev s__law_stood : Stmt := top 21
abbrev N__law_stood : List Str := ["_law_machine_here", "_law_other_here", "_law_rows", "_law_met", "_law_behind", "_law_one", "_law_two", "_law_row", "_law_ask", "_law_cell_here", "_law_beside", "_law_there"]
theorem sc__law_stood : FnScope N__law_stood ["_law_machine_here", "_law_other_here"] (defScope s__law_stood) := ⟨rfl, rfl, rfl, by decide +kernel, rfl, by decide +kernel, by decide +kernel⟩
abbrev s__law_is_pair : Stmt := top 22
abbrev N__law_is_pair : List Str := ["_law_thing", "_law_many", "_law_more", "_law_room", "_law_most"]
theorem sc__law_is_pair : FnScope N__law_is_pair ["_law_thing", "_law_many", "_law_more"] (defScope s__law_is_pair) := ⟨rfl, rfl, rfl, by decide +kernel, rfl, by decide +kernel, by decide +kernel⟩
abbrev s__law_fault : Stmt := top 23
abbrev N__law_fault : List Str := ["_law_machine_here", "_law_other_here", "_law_thing", "_law_pair", "_law_there", "_law_k", "_law_one", "_law_two", "_law_ask", "_law_cell_here", "_law_beside"]
theorem sc__law_fault : FnScope N__law_fault ["_law_machine_here", "_law_other_here", "_law_thing"] (defScope s__law_fault) := ⟨rfl, rfl, rfl, by decide +kernel, rfl, by decide +kernel, by decide +kernel⟩
abbrev s__law_bent_pair : Stmt := top 24
abbrev N__law_bent_pair : List Str := ["_law_pen_here", "_law_pair", "_law_many", "_law_way", "_law_at", "_law_odd", "_law_some"]
theorem sc__law_bent_pair : FnScope N__law_bent_pair ["_law_pen_here", "_law_pair", "_law_many"] (defScope s__law_bent_pair) := ⟨rfl, rfl, rfl, by decide +kernel, rfl, by decide +kernel, by decide +kernel⟩
abbrev s__law_bent : Stmt := top 25
abbrev N__law_bent : List Str := ["_law_pen_here", "_law_pairs", "_law_machine_here", "_law_other_here", "_law_way", "_law_at", "_law_more", "_law_odd", "_law_found", "_law_some", "_law_pair", "_law_k"]
theorem sc__law_bent : FnScope N__law_bent ["_law_pen_here", "_law_pairs", "_law_machine_here", "_law_other_here"] (defScope s__law_bent) := ⟨rfl, rfl, rfl, by decide +kernel, rfl, by decide +kernel, by decide +kernel⟩
abbrev s__law_led : Stmt := top 26
abbrev N__law_led : List Str := ["_law_machine_here", "_law_other_here", "_law_found", "_law_met", "_law_at", "_law_cell_here", "_law_beside", "_law_pair"]
theorem sc__law_led : FnScope N__law_led ["_law_machine_here", "_law_other_here"] (defScope s__law_led) := ⟨rfl, rfl, rfl, by decide +kernel, rfl, by decide +kernel, by decide +kernel⟩
abbrev s__law_right : Stmt := top 27
abbrev N__law_right : List Str := ["_law_machine_here", "_law_other_here", "_law_thing", "_law_kept", "_law_due"]
theorem sc__law_right : FnScope N__law_right ["_law_machine_here", "_law_other_here", "_law_thing"] (defScope s__law_right) := ⟨rfl, rfl, rfl, by decide +kernel, rfl, by decide +kernel, by decide +kernel⟩
abbrev s__law_changed_right : Stmt := top 28
abbrev N__law_changed_right : List Str := ["_law_machine_here", "_law_other_here", "_law_pairs", "_law_handed", "_law_turn"]
theorem sc__law_changed_right : FnScope N__law_changed_right ["_law_machine_here", "_law_other_here", "_law_pairs"] (defScope s__law_changed_right) := ⟨rfl, rfl, rfl, by decide +kernel, rfl, by decide +kernel, by decide +kernel⟩
abbrev s_law : Stmt := top 29
abbrev N_law : List Str := ["_law_script", "_law_pen_here", "_law_turn", "_law_way", "_law_great", "_law_machine_here", "_law_other_here", "_law_pairs", "_law_k", "_law_twice", "_law_thing"]
theorem sc_law : FnScope N_law ["_law_script"] (defScope s_law) := ⟨rfl, rfl, rfl, by decide +kernel, rfl, by decide +kernel, by decide +kernel⟩
/-- the built-in names that the text has not taken -/
structure Tx (mg : Str → Option Value) : Prop where
  b_ValueError : mg "ValueError" = none
  b_enumerate : mg "enumerate" = none
  b_range : mg "range" = none
  b_list : mg "list" = none
  b_len : mg "len" = none
  b_zip : mg "zip" = none
  b_dict : mg "dict" = none
  b_repr : mg "repr" = none
  b_isinstance : mg "isinstance" = none
  b_int : mg "int" = none
  b_tuple : mg "tuple" = none
  b_sorted : mg "sorted" = none
  b_bool : mg "bool" = none
  b_all : mg "all" = none
  b_abs : mg "abs" = none
/-! ### machines: plain facts -/
abbrev Cell := Option Nat × Option Nat
def optD : Option Nat → D
  | none => .non
  | some n => .int n
def cellD (c : Cell) : D := .tup [optD c.1, optD c.2]
def roomD (r : List Cell) : D := .tup (r.map cellD)
structure Mach where
  asks : Nat
  rooms : List (List Cell)
def machD (m : Mach) : D := .tup [.int m.asks, .tup (m.rooms.map roomD)]
/-- a cell's parts within the bounds -/
def cOk (many kinds : Nat) (c : Cell) : Prop := (∀ g, c.1 = some g → g < many) ∧ ∀ s, c.2 = some s → s < kinds
structure Mach.Ok (m : Mach) (most : Nat) : Prop where
  a0 : 0 < m.asks
  a4 : m.asks ≤ 4
  r0 : 0 < m.rooms.length
  rm : m.rooms.length ≤ most
  ok : ∀ r ∈ m.rooms, r.length = m.asks ∧ ∀ c ∈ r, cOk m.rooms.length 8 c
/-! ### rows gone: plain facts -/
def Mach.cell (m : Mach) (r a : Nat) : Cell := (m.rooms.getD r []).getD a (none, none)
def stepM (m : Mach) (s : List (Option Nat) × Option Nat) (a : Nat) : List (Option Nat) × Option Nat := match s.2 with
  | none => s
  | some r => (s.1 ++ [(m.cell r a).2], (m.cell r a).1)
/-- a row gone: the answers, the room at the end -/
def runM (m : Mach) (h : Option Nat) (row : List Nat) : List (Option Nat) × Option Nat := row.foldl (stepM m) ([], h)
abbrev rowD (row : List Nat) : D := .tup (row.map fun a : Nat => .int a)
theorem runM_snoc (m : Mach) (h : Option Nat) (l : List Nat) (a : Nat) : runM m h (l ++ [a]) = stepM m (runM m h l) a := by unfold runM; rw [List.foldl_append]; rfl
theorem take_next {α : Type} {l : List α} {i : Nat} {x : α} (h : l[i]? = some x) : l.take (i + 1) = l.take i ++ [x] := by rw [List.take_add_one, h]; rfl
theorem map_get {α β : Type} {f : α → β} {l : List α} {i : Nat} {y : β} (h : (l.map f)[i]? = some y) : ∃ x, l[i]? = some x ∧ f x = y := by
  rw [List.getElem?_map] at h
  exact Option.map_eq_some_iff.mp h
theorem fold_none (m : Mach) : ∀ (l : List Nat) (s : List (Option Nat) × Option Nat), s.2 = none → l.foldl (stepM m) s = s
  | [], _, _ => rfl
  | a :: l, s, h => by
    have e : stepM m s a = s := by unfold stepM; rw [h]
    rw [List.foldl_cons, e, fold_none m l s h]
theorem runM_none {m : Mach} {h : Option Nat} {row : List Nat} (i : Nat) (e : (runM m h (row.take i)).2 = none) : runM m h row = runM m h (row.take i) := by
  have e2 : runM m h row = (row.drop i).foldl (stepM m) (runM m h (row.take i)) := by unfold runM; rw [← List.foldl_append, List.take_append_drop]
  rw [e2, fold_none m _ _ e]
theorem runM_le (m : Mach) (h : Option Nat) (l : List Nat) : (runM m h l).1.length ≤ l.length := by
  have H : ∀ (l : List Nat) (s : List (Option Nat) × Option Nat), (l.foldl (stepM m) s).1.length ≤ s.1.length + l.length := by
    intro l
    induction l with
    | nil => intro s; exact Nat.le_refl _
    | cons a l ih =>
      intro s
      rw [List.foldl_cons]
      have h1 := ih (stepM m s a)
      have h2 : (stepM m s a).1.length ≤ s.1.length + 1 := by
        unfold stepM
        split
        · omega
        · rw [List.length_append]; exact Nat.le_refl _
      rw [List.length_cons]
      omega
  have := H l ([], h)
  simpa [runM] using this
/-- what is at a place of a machine -/
theorem mach_at {m : Mach} {most r a : Nat} (hm : m.Ok most) (hr : r < m.rooms.length) (ha : a < m.asks) : (m.rooms.map roomD)[r]? = some (roomD (m.rooms.getD r [])) ∧ ((m.rooms.getD r []).map cellD)[a]? = some (cellD (m.cell r a)) ∧ cOk m.rooms.length 8 (m.cell r a) := by
  have e1 : m.rooms.getD r [] = m.rooms[r] := by rw [List.getD_eq_getElem?_getD, List.getElem?_eq_getElem hr]; rfl
  obtain ⟨hl, hc⟩ := hm.ok _ (List.getElem_mem hr)
  have ha' : a < (m.rooms.getD r []).length := by rw [e1, hl]; exact ha
  have e2 : m.cell r a = (m.rooms.getD r [])[a] := by unfold Mach.cell; rw [List.getD_eq_getElem?_getD (l := m.rooms.getD r []), List.getElem?_eq_getElem ha']; rfl
  refine ⟨by rw [List.getElem?_map, List.getElem?_eq_getElem hr, e1]; rfl, by rw [List.getElem?_map, List.getElem?_eq_getElem ha', e2]; rfl, ?_⟩
  rw [e2]
  exact hc _ (e1 ▸ List.getElem_mem ha')
def RIn (m : Mach) (h : Option Nat) : Prop := ∀ x, h = some x → x < m.rooms.length
def AIn (m : Mach) (row : List Nat) : Prop := ∀ a ∈ row, a < m.asks
theorem runM_in {m : Mach} {most : Nat} (hm : m.Ok most) : ∀ (row : List Nat) (s : List (Option Nat) × Option Nat), RIn m s.2 → AIn m row → RIn m (row.foldl (stepM m) s).2
  | [], _, h, _ => h
  | a :: l, s, h, ha => by
    rw [List.foldl_cons]
    refine runM_in hm l _ ?_ fun b hb => ha b (List.mem_cons_of_mem _ hb)
    unfold stepM
    split
    · exact h
    · rename_i r e
      exact (mach_at hm (h r e) (ha a List.mem_cons_self)).2.2.1
theorem AIn.take {m : Mach} {row : List Nat} (h : AIn m row) (i : Nat) : AIn m (row.take i) := fun a ha => h a (List.mem_of_mem_take ha)
theorem AIn.drop {m : Mach} {row : List Nat} (h : AIn m row) (i : Nat) : AIn m (row.drop i) := fun a ha => h a (List.mem_of_mem_drop ha)
theorem ly_opt : ∀ o : Option Nat, Ly (optD o) 0
  | none => Ly.non
  | some n => Ly.int n
theorem ly_opts (l : List (Option Nat)) : Ly (.lst (l.map optD)) 1 := Ly.lst (Lys.map fun a _ => ly_opt a)
theorem ly_row (l : List Nat) : Ly (rowD l) 1 := Ly.tup (Lys.map fun a _ => Ly.int a)
theorem eqv_row_nil (l : List Nat) : PyData.eqv (rowD l).py (D.tup []).py = decide (l = []) := by
  cases l with
  | nil => exact eqv_same (ly_row [])
  | cons a l =>
    simp only [rowD, D.py, D.pys, List.map_cons, PyData.eqv, PyData.eqvAll]
    simp
/-! ### pens, machines, orders of k10..k20 -/
def penT (ns : List Int) (a l : Int) : List D := [.lst (ns.map D.int), .int a, .int l]
def penQ (ns : List Int) (n : Nat) : List D → Prop := fun xs => ∃ a l : Int, xs = penT ns a l ∧ 0 ≤ a ∧ a ≤ n ∧ 0 ≤ l
abbrev penW (ns : List Int) (n : Nat) : MO := .la (penQ ns n)
theorem penT_1 {ns : List Int} {a l b : Int} : (penT ns a l).set 1 (.int b) = penT ns b l := rfl
theorem penT_2 {ns : List Int} {a l b : Int} : (penT ns a l).set 2 (.int b) = penT ns a b := rfl
def S_take : FS := fun ds μ Φ => ∃ (ns : List Int) (n : Nat) (q : Addr) (i : Nat) (many : Int), ds = [.ptr q, .int many] ∧ μ[i]? = some (q, penW ns n) ∧ n ≤ 1000000 ∧ (0 < many ∧ many < 1000000000) ∧
  ∀ (r : Nat) μ', (r : Int) < many → μ' = μ.set i (q, penW ns (n + 1)) → Φ (.int r) μ'
def S_pen : FS := fun ds μ Φ => ∃ ns : List Int, ds = [.scr (ns.map D.int)] ∧ ns.length ≤ 63 ∧ ∀ p, Φ (.ptr p) ((p, penW ns 0) :: μ)
def S_cell : FS := fun ds μ Φ => ∃ (ns : List Int) (n : Nat) (q : Addr) (i : Nat) (share : Int) (wide shift many : Nat), ds = [.ptr q, .int share, .int wide, .int shift, .int many] ∧ μ[i]? = some (q, penW ns n) ∧ n ≤ 900000 ∧ (0 < wide ∧ wide ≤ 1000) ∧ (0 < many ∧ many ≤ 1000) ∧
  ∀ (c : Cell) (n' : Nat) μ', cOk many 8 c → n' ≤ n + 4 → μ' = μ.set i (q, penW ns n') → Φ (cellD c) μ'
def S_machine : FS := fun ds μ Φ => ∃ (ns : List Int) (n : Nat) (q : Addr) (i asks many : Nat), ds = [.ptr q, .int asks, .int many] ∧ μ[i]? = some (q, penW ns n) ∧ n ≤ 700000 ∧ (0 < asks ∧ asks ≤ 4) ∧ (0 < many ∧ many ≤ 24) ∧
  ∀ (m : Mach) (n' : Nat) μ', m.asks = asks → m.rooms.length = many → m.Ok 24 → n' ≤ n + 1000 → μ' = μ.set i (q, penW ns n') → Φ (machD m) μ'
def S_order : FS := fun ds μ Φ => ∃ (ns : List Int) (n : Nat) (q : Addr) (i many : Nat), ds = [.ptr q, .int many] ∧ μ[i]? = some (q, penW ns n) ∧ n ≤ 900000 ∧ many ≤ 10000 ∧
  ∀ (l : List Nat) (n' : Nat) μ', l.Perm (List.range many) → n' ≤ n + many → μ' = μ.set i (q, penW ns n') → Φ (.lst (l.map fun a : Nat => .int a)) μ'
theorem perm_erase {l left : List Nat} {i x many : Nat} (h : (l ++ left).Perm (List.range many)) (hx : left[i]? = some x) : (l ++ [x] ++ left.eraseIdx i).Perm (List.range many) := by
  refine List.Perm.trans ?_ h
  rw [List.append_assoc]
  refine List.Perm.append_left l ?_
  obtain ⟨hi, rfl⟩ := List.getElem?_eq_some_iff.mp hx
  rw [List.singleton_append]
  clear h
  induction left generalizing i with
  | nil => exact absurd hi (Nat.not_lt_zero _)
  | cons a r ih =>
    cases i with
    | zero => exact List.Perm.refl _
    | succ i => exact (List.Perm.swap _ _ _).trans (List.Perm.cons _ (ih (i := i) (by simpa using hi) (by simpa using hi)))
section
variable {P : Program} {w : World} {K : PySem.W.Frag} {mg : Str → Option Value} {base : Heap}
theorem ok_pen (B : Src K mg "_law_pen" s__law_pen ["_law_script"]) (T : Tx mg)  : KnG P w K mg base 1 "_law_pen" ["_law_script"] S_pen := by
  refine kn_ofG B sc__law_pen (fun ds μ Φ h => by obtain ⟨_, rfl, _⟩ := h; rfl) fun f cdv A outer s H E grd hr ds μ Φ h => ?_
  obtain ⟨ns, rfl, hl, k⟩ := h
  refine wSs_rho (ρ' := [_]) rfl ?_
  -- return [_law_script[:63], 0, 0]
  refine w_cons (w_ret (w_close ?_))
  refine w_lstM ?_
  refine wa_cons ?_
  refine w_sl ?_
  refine w_name 0 rfl (.inl rfl) rfl ?_
  refine wo_none ?_
  refine wo_some ?_
  refine w_int ?_
  refine ⟨_, rfl, ?_⟩
  refine sd_scr ?_
  have e : cutD (ns.map D.int) none (some 63) = ns.map D.int := by
    have := cutD_to (ns.map D.int) 63
    rw [List.take_of_length_le (by rw [List.length_map]; exact hl)] at this
    exact this
  rw [e]
  refine wa_cons ?_
  refine w_int ?_
  refine wa_cons ?_
  refine w_int ?_
  refine wa_nil ?_
  refine ⟨by simp, fun p => ?_⟩
  exact ⟨0, p, _, penQ ns 0, rfl, ⟨0, 0, rfl, by decide, by decide, by decide⟩, k p⟩
theorem ok_take (B : Src K mg "_law_take" s__law_take ["_law_pen_here", "_law_many"]) (T : Tx mg)  : KnG P w K mg base 1 "_law_take" ["_law_pen_here", "_law_many"] S_take := by
  refine kn_ofG B sc__law_take (fun ds μ Φ h => by obtain ⟨_, _, _, _, _, rfl, _⟩ := h; rfl) fun f cdv A outer s H E grd hr ds μ Φ h => ?_
  obtain ⟨ns, n, q, i, many, rfl, hm0, hn, hmany, k0⟩ := h
  refine wSs_open hm0 fun xs hxs => ?_
  obtain ⟨a, l, rfl, ha0, han, hl0⟩ := hxs
  have hm := get_set (y := (q, MO.lst (penT ns a l))) hm0
  have k : ∀ (r : Int) (a' l' : Int) (μ1 : Mu), 0 ≤ r → r < many → 0 ≤ a' → a' ≤ n + 1 → 0 ≤ l' → μ1 = μ.set i (q, MO.lst (penT ns a' l')) → ∃ (i' : Nat) (q' : Addr) (ds : List D) (P : List D → Prop), μ1[i']? = some (q', .lst ds) ∧ P ds ∧ Φ (.int r) (μ1.set i' (q', .la P)) := fun r a' l' μ1 h0 h1 h2 h3 h4 e => by
    subst e
    refine ⟨i, q, _, penQ ns (n + 1), get_set hm0, ⟨a', l', rfl, h2, by omega, h4⟩, ?_⟩
    have := k0 r.toNat _ (by omega) rfl
    rwa [Int.toNat_of_nonneg h0, ← List.set_set (a := (q, MO.lst (penT ns a' l')))] at this
  refine wSs_rho (ρ' := [_, _, _, _, _, _, _]) rfl ?_
  -- if _law_pen_here[2] > 0:
  refine w_cons (w_if ?_)
  refine wt_cmp ?_
  refine w_ix ?_
  refine w_name 0 rfl (.inl rfl) rfl ?_
  refine w_int ?_
  refine ix_ptrD i hm 2 rfl rfl ?_
  refine w_int ?_
  walk_at "Gt"
  refine ⟨_, rfl, ?_⟩
  refine ⟨fun hb => ?_, fun hb => ?_⟩
  · -- _law_digit = _law_pen_here[2] % _law_many
    refine w_cons (w_set 2 sc__law_take.nd rfl (.inl rfl) (.inl rfl) ?_)
    refine w_bin ?_
    refine w_ix ?_
    refine w_name 0 rfl (.inl rfl) rfl ?_
    refine w_int ?_
    refine ix_ptrD i hm 2 rfl rfl ?_
    refine w_name 1 rfl (.inl rfl) rfl ?_
    walk_at "Mod"
    -- _law_pen_here[2] = _law_pen_here[2] // _law_many
    refine w_cons (w_lset ?_)
    refine w_bin ?_
    refine w_ix ?_
    refine w_name 0 rfl (.inl rfl) rfl ?_
    refine w_int ?_
    refine ix_ptrD i hm 2 rfl rfl ?_
    refine w_name 1 rfl (.inl rfl) rfl ?_
    walk_at "FloorDiv"
    refine w_name 0 rfl (.inl rfl) rfl ?_
    refine w_int ?_
    refine ⟨_, i, _, 2, rfl, rfl, hm, (by show 2 < 3; decide), ?_⟩
    rw [penT_2, List.set_set]
    -- return _law_digit
    refine w_cons (w_ret (w_close ?_))
    refine w_name 2 rfl (.inl rfl) rfl ?_
    exact k _ a (l / many) _ (Int.emod_nonneg _ (by omega)) (Int.emod_lt_of_pos _ (by omega)) (by omega) (by omega) (Int.ediv_nonneg hl0 (by omega)) rfl
  refine w_nil ?_
  -- _law_at = _law_pen_here[1]
  refine w_cons (w_set 3 sc__law_take.nd rfl (.inl rfl) (.inl rfl) ?_)
  refine w_ix ?_
  refine w_name 0 rfl (.inl rfl) rfl ?_
  refine w_int ?_
  refine ix_ptrD i hm 1 rfl rfl ?_
  -- _law_pen_here[1] = _law_at + 1
  refine w_cons (w_lset ?_)
  refine w_bin ?_
  refine w_name 3 rfl (.inl rfl) rfl ?_
  refine w_int ?_
  first | refine o_addN (b := 1) ?_ | walk_at "Add"
  refine w_name 0 rfl (.inl rfl) rfl ?_
  refine w_int ?_
  refine ⟨_, i, _, 1, rfl, rfl, hm, (by show 1 < 3; decide), ?_⟩
  rw [penT_1, List.set_set]
  have hm2 := get_set (y := (q, MO.lst (penT ns (a + 1) l))) hm0
  -- _law_cell_here = 7919 * _law_at + 11
  refine w_cons (w_set 4 sc__law_take.nd rfl (.inl rfl) (.inl rfl) ?_)
  refine w_bin ?_
  refine w_bin ?_
  refine w_int ?_
  refine w_name 3 rfl (.inl rfl) rfl ?_
  first | refine o_mulN (a := 7919) (by omega) ?_ | walk_at "Mult"
  refine w_int ?_
  first | refine o_addN (b := 11) ?_ | walk_at "Add"
  -- if len(_law_pen_here[0]) > 0:
  refine w_cutV [4] (fun vs μ' => ∃ (c : Int), vs = [some (.int c)] ∧ μ.set i (q, MO.lst (penT ns (a + 1) l)) = μ') (w_if ?_) ?_
  · refine wt_cmp ?_
    refine w_callB (id := "len") T.b_len ?_
    refine wa_cons ?_
    refine w_ix ?_
    refine w_name 0 rfl (.inl rfl) rfl ?_
    refine w_int ?_
    refine ix_ptrD i hm2 0 rfl rfl ?_
    refine wa_nil ?_
    refine c_lenL ?_
    rw [List.length_map]
    refine w_int ?_
    walk_at "Gt"
    refine ⟨_, rfl, ?_⟩
    refine ⟨fun hb => ?_, fun hb => ?_⟩
    · -- _law_cell_here = _law_pen_here[0][_law_at % len(_law_pen_here[0])]
      refine w_cons (w_set 4 sc__law_take.nd rfl (.inl rfl) (.inl rfl) ?_)
      refine w_ix ?_
      refine w_ix ?_
      refine w_name 0 rfl (.inl rfl) rfl ?_
      refine w_int ?_
      have hpos : 0 < ns.length := by have := of_decide_eq_true hb; omega
      refine ix_ptrD i hm2 0 rfl rfl ?_
      refine w_bin ?_
      refine w_name 3 rfl (.inl rfl) rfl ?_
      refine w_callB (id := "len") T.b_len ?_
      refine wa_cons ?_
      refine w_ix ?_
      refine w_name 0 rfl (.inl rfl) rfl ?_
      refine w_int ?_
      refine ix_ptrD i hm2 0 rfl rfl ?_
      refine wa_nil ?_
      refine c_lenL ?_
      rw [List.length_map]
      walk_at "Mod"
      have hr0 : 0 ≤ a % (ns.length : Int) := Int.emod_nonneg _ (by omega)
      have hr1 : a % (ns.length : Int) < ns.length := Int.emod_lt_of_pos _ (by omega)
      have hlt : (a % (ns.length : Int)).toNat < ns.length := by omega
      refine ix_lstD (a % (ns.length : Int)).toNat (Int.toNat_of_nonneg hr0).symm (by rw [List.getElem?_map, List.getElem?_eq_getElem hlt]; rfl) ?_
      generalize ns[(a % (ns.length : Int)).toNat] = c
      refine w_nil ?_
      exact ⟨[_], rfl, ⟨c, rfl, rfl⟩⟩
    · refine w_nil ?_
      exact ⟨[_], rfl, ⟨_, rfl, rfl⟩⟩
  rintro vs μ' ⟨c, rfl, rfl⟩
  refine wSs_rho (ρ' := [_, _, _, _, _, _, _]) rfl ?_
  have habs := absN c
  -- if _law_at < len(_law_pen_here[0]) and abs(_law_cell_here) >= 10 ** 18:
  refine w_cons (w_if ?_)
  refine wt_b ((decide (a < (ns.length : Int)) && decide ((if c < 0 then -c else c) ≥ (10 : Int) ^ (18 : Int).toNat))) ?_ ?_
  · refine wt_w ?_
    refine ww_and ?_
    refine wt_cmp ?_
    refine w_name 3 rfl (.inl rfl) rfl ?_
    refine w_callB (id := "len") T.b_len ?_
    refine wa_cons ?_
    refine w_ix ?_
    refine w_name 0 rfl (.inl rfl) rfl ?_
    refine w_int ?_
    refine ix_ptrD i hm2 0 rfl rfl ?_
    refine wa_nil ?_
    refine c_lenL ?_
    rw [List.length_map]
    walk_at "Lt"
    refine ⟨_, rfl, ?_⟩
    refine ⟨fun hb0 => ?_, fun hb0 => ⟨(by rw [hb0]; rfl), rfl⟩⟩
    refine ww_and1 ?_
    refine wt_cmp ?_
    refine w_callB (id := "abs") T.b_abs ?_
    refine wa_cons ?_
    refine w_name 4 rfl (.inl rfl) rfl ?_
    refine wa_nil ?_
    walk_at "c_abs"
    refine w_bin ?_
    refine w_int ?_
    refine w_int ?_
    walk_at "Pow"
    walk_at "GtE"
    refine ⟨_, rfl, ?_⟩
    exact ⟨(by rw [hb0]; rfl), rfl⟩
  refine ⟨fun hb => ?_, fun hb => ?_⟩
  · -- _law_pen_here[2] = abs(_law_cell_here) // _law_many
    refine w_cons (w_lset ?_)
    refine w_bin ?_
    refine w_callB (id := "abs") T.b_abs ?_
    refine wa_cons ?_
    refine w_name 4 rfl (.inl rfl) rfl ?_
    refine wa_nil ?_
    walk_at "c_abs"
    refine w_name 1 rfl (.inl rfl) rfl ?_
    walk_at "FloorDiv"
    refine w_name 0 rfl (.inl rfl) rfl ?_
    refine w_int ?_
    refine ⟨_, i, _, 2, rfl, rfl, hm2, (by show 2 < 3; decide), ?_⟩
    rw [penT_2, List.set_set]
    -- return abs(_law_cell_here) % _law_many
    refine w_cons (w_ret (w_close ?_))
    refine w_bin ?_
    refine w_callB (id := "abs") T.b_abs ?_
    refine wa_cons ?_
    refine w_name 4 rfl (.inl rfl) rfl ?_
    refine wa_nil ?_
    walk_at "c_abs"
    refine w_name 1 rfl (.inl rfl) rfl ?_
    walk_at "Mod"
    exact k _ (a + 1) ((if c < 0 then -c else c) / many) _ (Int.emod_nonneg _ (by omega)) (Int.emod_lt_of_pos _ (by omega)) (by omega) (by omega) (Int.ediv_nonneg habs (by omega)) (by first | rfl | rw [List.set_set])
  refine w_nil ?_
  -- _law_prime = (2147483647, 2147483629, 2147483587, 2147483579, 2147483563)[_law_at % 5]
  refine w_cons (w_set 5 sc__law_take.nd rfl (.inl rfl) (.inl rfl) ?_)
  refine w_ix ?_
  refine w_tup ?_
  refine wa_cons ?_
  refine w_int ?_
  refine wa_cons ?_
  refine w_int ?_
  refine wa_cons ?_
  refine w_int ?_
  refine wa_cons ?_
  refine w_int ?_
  refine wa_cons ?_
  refine w_int ?_
  refine wa_nil ?_
  refine ⟨by simp, ?_⟩
  refine w_bin ?_
  refine w_name 3 rfl (.inl rfl) rfl ?_
  refine w_int ?_
  walk_at "Mod"
  first | refine ix_litNT [2147483647, 2147483629, 2147483587, 2147483579, 2147483563] (by show (_ : Nat) < 5; omega) fun x1 hx1 => ?_ | refine ix_litT [2147483647, 2147483629, 2147483587, 2147483579, 2147483563] (by omega) (by show (_ : Int) < 5; omega) fun x1 hx1 => ?_
  have hb1 : 2147483563 ≤ x1 ∧ x1 ≤ 2147483647 := by simp at hx1; omega
  -- _law_number = (_law_cell_here % 2147483549 + 1) * (_law_at * _law_at + 48271) % _law_prime
  refine w_cons (w_set 6 sc__law_take.nd rfl (.inl rfl) (.inl rfl) ?_)
  refine w_bin ?_
  refine w_bin ?_
  refine w_bin ?_
  refine w_bin ?_
  refine w_name 4 rfl (.inl rfl) rfl ?_
  refine w_int ?_
  walk_at "Mod"
  refine w_int ?_
  first | refine o_addN (b := 1) ?_ | walk_at "Add"
  refine w_bin ?_
  refine w_bin ?_
  refine w_name 3 rfl (.inl rfl) rfl ?_
  refine w_name 3 rfl (.inl rfl) rfl ?_
  first | refine o_mulN (by omega) ?_ | walk_at "Mult"
  refine w_int ?_
  first | refine o_addN (b := 48271) ?_ | walk_at "Add"
  first | refine o_mulN (by omega) ?_ | walk_at "Mult"
  refine w_name 5 rfl (.inl rfl) rfl ?_
  walk_at "Mod"
  have hpp : 0 < x1 := by omega
  have hy0 := Int.emod_nonneg ((c % 2147483549 + 1) * (a * a + 48271)) (show x1 ≠ 0 by omega)
  have hy1 := Int.emod_lt_of_pos ((c % 2147483549 + 1) * (a * a + 48271)) hpp
  generalize (c % 2147483549 + 1) * (a * a + 48271) % x1 = y at hy0 hy1
  -- _law_number = (_law_number ** 3 + 69621 * _law_at + 3) % 2147483543
  refine w_cons (w_set 6 sc__law_take.nd rfl (.inl rfl) (.inl rfl) ?_)
  refine w_bin ?_
  refine w_bin ?_
  refine w_bin ?_
  refine w_bin ?_
  refine w_name 6 rfl (.inl rfl) rfl ?_
  refine w_int ?_
  walk_at "Pow"
  refine w_bin ?_
  refine w_int ?_
  refine w_name 3 rfl (.inl rfl) rfl ?_
  first | refine o_mulN (a := 69621) (by omega) ?_ | walk_at "Mult"
  first | refine o_addN ?_ | walk_at "Add"
  refine w_int ?_
  first | refine o_addN (b := 3) ?_ | walk_at "Add"
  refine w_int ?_
  walk_at "Mod"
  have hz0 := Int.emod_nonneg (y ^ (3 : Int).toNat + 69621 * a + 3) (show (2147483543 : Int) ≠ 0 by decide)
  have hz1 := Int.emod_lt_of_pos (y ^ (3 : Int).toNat + 69621 * a + 3) (show (0 : Int) < 2147483543 by decide)
  generalize (y ^ (3 : Int).toNat + 69621 * a + 3) % 2147483543 = z at hz0 hz1
  -- return _law_number * (_law_number % 65521 + _law_at + 5) % 2147483497 // 64 % _law_many
  refine w_cons (w_ret (w_close ?_))
  refine w_bin ?_
  refine w_bin ?_
  refine w_bin ?_
  refine w_bin ?_
  refine w_name 6 rfl (.inl rfl) rfl ?_
  refine w_bin ?_
  refine w_bin ?_
  refine w_bin ?_
  refine w_name 6 rfl (.inl rfl) rfl ?_
  refine w_int ?_
  walk_at "Mod"
  refine w_name 3 rfl (.inl rfl) rfl ?_
  first | refine o_addN ?_ | walk_at "Add"
  refine w_int ?_
  first | refine o_addN (b := 5) ?_ | walk_at "Add"
  first | refine o_mulN (by omega) ?_ | walk_at "Mult"
  refine w_int ?_
  walk_at "Mod"
  refine w_int ?_
  walk_at "FloorDiv"
  refine w_name 1 rfl (.inl rfl) rfl ?_
  walk_at "Mod"
  exact k _ (a + 1) l _ (Int.emod_nonneg _ (by omega)) (Int.emod_lt_of_pos _ (by omega)) (by omega) (by omega) hl0 rfl
theorem ok_cell (B : Src K mg "_law_cell" s__law_cell ["_law_pen_here", "_law_share", "_law_wide", "_law_shift", "_law_many"]) (T : Tx mg) (G__law_take : KnG P w K mg base 1 "_law_take" ["_law_pen_here", "_law_many"] S_take) : KnG P w K mg base 2 "_law_cell" ["_law_pen_here", "_law_share", "_law_wide", "_law_shift", "_law_many"] S_cell := by
  refine kn_ofG B sc__law_cell (fun ds μ Φ h => by obtain ⟨_, _, _, _, _, _, _, _, rfl, _⟩ := h; rfl) fun f cdv A outer s H E grd hr ds μ Φ h => ?_
  obtain ⟨ns, n, q, ip, share, wide, shift, many, rfl, hpen, hn, hwide, hmany, k⟩ := h
  refine wSs_rho (ρ' := [_, _, _, _, _, _, _]) rfl ?_
  -- _law_goes = None
  refine w_cons (w_set 5 sc__law_cell.nd rfl (.inl rfl) (.inl rfl) ?_)
  refine w_non ?_
  -- _law_answer = None
  refine w_cons (w_set 6 sc__law_cell.nd rfl (.inl rfl) (.inl rfl) ?_)
  refine w_non ?_
  -- if _law_take(_law_pen_here, 8) >= _law_share:
  refine w_cutV [5] (fun vs μ' => ∃ (g : Option Nat) (c : Nat), (∀ x, g = some x → x < many) ∧ (c ≤ n + 2) ∧ vs = [some (optD g)] ∧ μ.set ip (q, penW ns c) = μ') (w_if ?_) ?_
  · refine wt_cmp ?_
    refine w_callG G__law_take hr ?_
    refine wa_cons ?_
    refine w_name 0 rfl (.inl rfl) rfl ?_
    refine wa_cons ?_
    refine w_int ?_
    refine wa_nil ?_
    refine ⟨_, _, _, _, _, rfl, by walk_at "pen", by omega, by omega, fun r1 μ1 hr1 e1 => ?_⟩
    try simp only [List.set_cons_succ, List.set_set, List.set_cons_zero] at e1
    subst e1
    refine w_name 1 rfl (.inl rfl) rfl ?_
    walk_at "GtE"
    refine ⟨_, rfl, ?_⟩
    refine ⟨fun hb => ?_, fun hb => ?_⟩
    · -- _law_goes = _law_take(_law_pen_here, _law_many)
      refine w_cons (w_set 5 sc__law_cell.nd rfl (.inl rfl) (.inl rfl) ?_)
      refine w_callG G__law_take hr ?_
      refine wa_cons ?_
      refine w_name 0 rfl (.inl rfl) rfl ?_
      refine wa_cons ?_
      refine w_name 4 rfl (.inl rfl) rfl ?_
      refine wa_nil ?_
      refine ⟨_, _, _, _, _, rfl, by walk_at "pen", by omega, by omega, fun r2 μ2 hr2 e2 => ?_⟩
      try simp only [List.set_cons_succ, List.set_set, List.set_cons_zero] at e2
      subst e2
      refine w_nil ?_
      exact ⟨[_], rfl, ⟨some r2, n + 1 + 1, (fun x e => by cases e; omega), (by omega), rfl, rfl⟩⟩
    · refine w_nil ?_
      exact ⟨[_], rfl, ⟨none, n + 1, (fun x e => (nomatch e)), (by omega), rfl, rfl⟩⟩
  rintro vs μ' ⟨g, c, hg, hc, rfl, rfl⟩
  refine wSs_rho (ρ' := [_, _, _, _, _, _, _]) rfl ?_
  -- if _law_take(_law_pen_here, 8) >= _law_share:
  refine w_cutV [6] (fun vs μ' => ∃ (u : Option Nat) (c2 : Nat), (∀ x, u = some x → x < 8) ∧ (c2 ≤ c + 2) ∧ vs = [some (optD u)] ∧ μ.set ip (q, penW ns c2) = μ') (w_if ?_) ?_
  · refine wt_cmp ?_
    refine w_callG G__law_take hr ?_
    refine wa_cons ?_
    refine w_name 0 rfl (.inl rfl) rfl ?_
    refine wa_cons ?_
    refine w_int ?_
    refine wa_nil ?_
    refine ⟨_, _, _, _, _, rfl, by walk_at "pen", by omega, by omega, fun r3 μ3 hr3 e3 => ?_⟩
    try simp only [List.set_cons_succ, List.set_set, List.set_cons_zero] at e3
    subst e3
    refine w_name 1 rfl (.inl rfl) rfl ?_
    walk_at "GtE"
    refine ⟨_, rfl, ?_⟩
    refine ⟨fun hb => ?_, fun hb => ?_⟩
    · -- _law_answer = (_law_take(_law_pen_here, _law_wide) + _law_shift) % 8
      refine w_cons (w_set 6 sc__law_cell.nd rfl (.inl rfl) (.inl rfl) ?_)
      refine w_bin ?_
      refine w_bin ?_
      refine w_callG G__law_take hr ?_
      refine wa_cons ?_
      refine w_name 0 rfl (.inl rfl) rfl ?_
      refine wa_cons ?_
      refine w_name 2 rfl (.inl rfl) rfl ?_
      refine wa_nil ?_
      refine ⟨_, _, _, _, _, rfl, by walk_at "pen", by omega, by omega, fun r4 μ4 hr4 e4 => ?_⟩
      try simp only [List.set_cons_succ, List.set_set, List.set_cons_zero] at e4
      subst e4
      refine w_name 3 rfl (.inl rfl) rfl ?_
      first | refine o_addN ?_ | walk_at "Add"
      refine w_int ?_
      walk_at "Mod"
      refine w_nil ?_
      exact ⟨[_], rfl, ⟨some ((r4 + shift) % 8), c + 1 + 1, (fun x e => by cases e; omega), (by omega), rfl, rfl⟩⟩
    · refine w_nil ?_
      exact ⟨[_], rfl, ⟨none, c + 1, (fun x e => (nomatch e)), (by omega), rfl, rfl⟩⟩
  rintro vs μ' ⟨u, c2, hu, hc2, rfl, rfl⟩
  refine wSs_rho (ρ' := [_, _, _, _, _, _, _]) rfl ?_
  -- return (_law_goes, _law_answer)
  refine w_cons (w_ret ?_)
  refine w_tup ?_
  refine wa_cons ?_
  refine w_name 5 rfl (.inl rfl) rfl ?_
  refine wa_cons ?_
  refine w_name 6 rfl (.inl rfl) rfl ?_
  refine wa_nil ?_
  refine ⟨by simp, ?_⟩
  exact k (g, u) c2 _ ⟨hg, hu⟩ (by omega) rfl
theorem ok_machine (B : Src K mg "_law_machine" s__law_machine ["_law_pen_here", "_law_asks", "_law_many"]) (T : Tx mg) (G__law_take : KnG P w K mg base 1 "_law_take" ["_law_pen_here", "_law_many"] S_take) (G__law_cell : KnG P w K mg base 2 "_law_cell" ["_law_pen_here", "_law_share", "_law_wide", "_law_shift", "_law_many"] S_cell) : KnG P w K mg base 3 "_law_machine" ["_law_pen_here", "_law_asks", "_law_many"] S_machine := by
  refine kn_ofG B sc__law_machine (fun ds μ Φ h => by obtain ⟨_, _, _, _, _, _, rfl, _⟩ := h; rfl) fun f cdv A outer s H E grd hr ds μ Φ h => ?_
  obtain ⟨ns, n, q, ip, asks, many, rfl, hpen, hn, hasks, hmany, k⟩ := h
  refine wSs_rho (ρ' := [_, _, _, _, _, _, _, _, _, _, _, _]) rfl ?_
  -- _law_share = (0, 1, 3, 6)[_law_take(_law_pen_here, 4)]
  refine w_cons (w_set 3 sc__law_machine.nd rfl (.inr rfl) (.inl rfl) ?_)
  refine w_ix ?_
  refine w_tup ?_
  refine wa_cons ?_
  refine w_int ?_
  refine wa_cons ?_
  refine w_int ?_
  refine wa_cons ?_
  refine w_int ?_
  refine wa_cons ?_
  refine w_int ?_
  refine wa_nil ?_
  refine ⟨by simp, ?_⟩
  refine w_callG G__law_take hr ?_
  refine wa_cons ?_
  refine w_name 0 rfl (.inr (.inl rfl)) rfl ?_
  refine wa_cons ?_
  refine w_int ?_
  refine wa_nil ?_
  refine ⟨_, _, _, _, _, rfl, by walk_at "pen", by omega, by omega, fun r1 μ1 hr1 e1 => ?_⟩
  try simp only [List.set_cons_succ, List.set_set, List.set_cons_zero] at e1
  subst e1
  first | refine ix_litNT [0, 1, 3, 6] (by show (_ : Nat) < 4; omega) fun x1 hx1 => ?_ | refine ix_litT [0, 1, 3, 6] (by omega) (by show (_ : Int) < 4; omega) fun x1 hx1 => ?_
  have hb1 : 0 ≤ x1 ∧ x1 ≤ 6 := by simp at hx1; omega
  -- _law_wide = (1, 2, 2, 8)[_law_take(_law_pen_here, 4)]
  refine w_cons (w_set 4 sc__law_machine.nd rfl (.inr rfl) (.inl rfl) ?_)
  refine w_ix ?_
  refine w_tup ?_
  refine wa_cons ?_
  refine w_int ?_
  refine wa_cons ?_
  refine w_int ?_
  refine wa_cons ?_
  refine w_int ?_
  refine wa_cons ?_
  refine w_int ?_
  refine wa_nil ?_
  refine ⟨by simp, ?_⟩
  refine w_callG G__law_take hr ?_
  refine wa_cons ?_
  refine w_name 0 rfl (.inr (.inl rfl)) rfl ?_
  refine wa_cons ?_
  refine w_int ?_
  refine wa_nil ?_
  refine ⟨_, _, _, _, _, rfl, by walk_at "pen", by omega, by omega, fun r2 μ2 hr2 e2 => ?_⟩
  try simp only [List.set_cons_succ, List.set_set, List.set_cons_zero] at e2
  subst e2
  first | refine ix_litNT [1, 2, 2, 8] (by show (_ : Nat) < 4; omega) fun x2 hx2 => ?_ | refine ix_litT [1, 2, 2, 8] (by omega) (by show (_ : Int) < 4; omega) fun x2 hx2 => ?_
  have hb2 : 1 ≤ x2 ∧ x2 ≤ 8 := by simp at hx2; omega
  -- _law_alike = _law_take(_law_pen_here, 3) == 0
  refine w_cons (w_set 5 sc__law_machine.nd rfl (.inl rfl) (.inl rfl) ?_)
  refine w_cmp ?_
  refine w_callG G__law_take hr ?_
  refine wa_cons ?_
  refine w_name 0 rfl (.inr (.inl rfl)) rfl ?_
  refine wa_cons ?_
  refine w_int ?_
  refine wa_nil ?_
  refine ⟨_, _, _, _, _, rfl, by walk_at "pen", by omega, by omega, fun r3 μ3 hr3 e3 => ?_⟩
  try simp only [List.set_cons_succ, List.set_set, List.set_cons_zero] at e3
  subst e3
  refine w_int ?_
  walk_at "Eq"
  -- _law_shift = _law_take(_law_pen_here, 8)
  refine w_cons (w_set 6 sc__law_machine.nd rfl (.inr rfl) (.inl rfl) ?_)
  refine w_callG G__law_take hr ?_
  refine wa_cons ?_
  refine w_name 0 rfl (.inr (.inl rfl)) rfl ?_
  refine wa_cons ?_
  refine w_int ?_
  refine wa_nil ?_
  refine ⟨_, _, _, _, _, rfl, by walk_at "pen", by omega, by omega, fun r4 μ4 hr4 e4 => ?_⟩
  try simp only [List.set_cons_succ, List.set_set, List.set_cons_zero] at e4
  subst e4
  -- _law_rooms = []
  refine w_cons (w_set 7 sc__law_machine.nd rfl (.inl rfl) (.inl rfl) ?_)
  refine w_lstM ?_
  refine wa_nil ?_
  refine ⟨by simp, fun pr => ?_⟩
  -- for _law_room in range(_law_many):
  refine w_cons (w_forV [8, 9, 10] ?_ PassesOwn.never rfl)
  refine wi_rngN T.b_range ?_
  refine w_name 2 rfl (.inr (.inl rfl)) rfl ?_
  refine ⟨_, by rfl, by omega, ?_⟩
  refine ⟨_, fun i vs μ' => ∃ (R : List (List Cell)) (c : Nat) (w8 w9 w10 : Option D), (R.length = i) ∧ (∀ r ∈ R, r.length = asks ∧ ∀ c ∈ r, cOk many 8 c) ∧ (c ≤ n + 4 + 30 * i) ∧ vs = [w8, w9, w10] ∧ (pr, .lst (R.map roomD)) :: μ.set ip (q, penW ns c) = μ', (by first | exact nats_len | exact nats2_len | exact enumD_len.trans (List.length_map _) | exact enumD_len | exact List.length_map _ | exact rfl | simp), ⟨[], n + 1 + 1 + 1 + 1, _, _, _, rfl, (fun r hr => (nomatch hr)), (by omega), rfl, rfl⟩, ?_, ?_⟩
  · rintro room x vs μ' hx ⟨R, c, w8, w9, w10, hRl, hR, hc, rfl, rfl⟩
    refine wG_rho (ρ' := [_, _, _, _, _, _, _, _, _, _, _, _]) rfl ?_
    obtain ⟨hroom, rfl⟩ := nats_get hx
    refine wg_name 8 sc__law_machine.nd rfl (.inl rfl) (.inl rfl) ?_
    -- if _law_alike and _law_room > 0 and (_law_take(_law_pen_here, 2) == 0):
    refine w_cons (w_if ?_)
    refine wt_mono (Ψ := (fun b μ1 => ∃ c1, c1 ≤ c + 1 ∧ (b = true → 0 < room) ∧ μ1 = (pr, .lst (R.map roomD)) :: μ.set ip (q, penW ns c1))) ?_ ?_
    · refine wt_w ?_
      refine ww_and ?_
      refine wt_val ?_
      refine w_name 5 rfl (.inl rfl) rfl ?_
      refine ⟨_, rfl, ?_⟩
      refine ⟨fun hb0 => ?_, fun hb0 => ?_⟩
      rotate_left
      · exact ⟨c, by omega, fun z => (nomatch z), rfl⟩
      refine ww_and ?_
      refine wt_cmp ?_
      refine w_name 8 rfl (.inl rfl) rfl ?_
      refine w_int ?_
      walk_at "Gt"
      refine ⟨_, rfl, ?_⟩
      refine ⟨fun hb1 => ?_, fun hb1 => ?_⟩
      rotate_left
      · exact ⟨c, by omega, fun z => (nomatch z), rfl⟩
      refine ww_and1 ?_
      refine wt_cmp ?_
      refine w_callG G__law_take hr ?_
      refine wa_cons ?_
      refine w_name 0 rfl (.inr (.inl rfl)) rfl ?_
      refine wa_cons ?_
      refine w_int ?_
      refine wa_nil ?_
      refine ⟨_, _, _, _, _, rfl, by walk_at "pen", by omega, by omega, fun r5 μ5 hr5 e5 => ?_⟩
      try simp only [List.set_cons_succ, List.set_set, List.set_cons_zero] at e5
      subst e5
      refine w_int ?_
      walk_at "Eq"
      refine ⟨_, rfl, ?_⟩
      exact ⟨c + 1, by omega, fun _ => by have := of_decide_eq_true hb1; omega, rfl⟩
    rintro b μ1 ⟨c1, hc1, hb1, rfl⟩
    refine ⟨fun hb => ?_, fun hb => ?_⟩
    · -- _law_cells = _law_rooms[_law_take(_law_pen_here, _law_room)]
      refine w_cons (w_set 9 sc__law_machine.nd rfl (.inl rfl) (.inl rfl) ?_)
      refine w_ix ?_
      refine w_name 7 rfl (.inl rfl) rfl ?_
      refine w_callG G__law_take hr ?_
      refine wa_cons ?_
      refine w_name 0 rfl (.inr (.inl rfl)) rfl ?_
      refine wa_cons ?_
      refine w_name 8 rfl (.inl rfl) rfl ?_
      refine wa_nil ?_
      have hroom0 := hb1 hb
      refine ⟨_, _, _, _, _, rfl, by walk_at "pen", by omega, by omega, fun rA μA hrA eA => ?_⟩
      simp only [List.set_cons_succ, List.set_set, List.set_cons_zero] at eA
      subst eA
      obtain ⟨row, hrow, hrowm⟩ := get_of_lt (show rA < R.length by omega)
      obtain ⟨hrl, hro⟩ := hR _ hrowm
      refine ix_ptrD 0 rfl rA rfl (map_at hrow) ?_
      -- _law_at = _law_take(_law_pen_here, _law_asks)
      refine w_cons (w_set 10 sc__law_machine.nd rfl (.inl rfl) (.inl rfl) ?_)
      refine w_callG G__law_take hr ?_
      refine wa_cons ?_
      refine w_name 0 rfl (.inr (.inl rfl)) rfl ?_
      refine wa_cons ?_
      refine w_name 1 rfl (.inl rfl) rfl ?_
      refine wa_nil ?_
      refine ⟨_, _, _, _, _, rfl, by walk_at "pen", by omega, by omega, fun r6 μ6 hr6 e6 => ?_⟩
      try simp only [List.set_cons_succ, List.set_set, List.set_cons_zero] at e6
      subst e6
      -- _law_rooms.append(_law_cells[:_law_at] + ((_law_cells[_law_at][0], None),) + _law_cells[_law_at + 1:])
      refine w_cons (w_expr ?_)
      refine w_append ?_
      refine w_name 7 rfl (.inl rfl) rfl ?_
      first | refine ⟨.inl ⟨rfl, 0, _, rfl⟩, ?_⟩ | refine ⟨.inl ⟨rfl, 1, _, rfl⟩, ?_⟩ | refine ⟨.inl ⟨rfl, 2, _, rfl⟩, ?_⟩ | refine ⟨.inl ⟨rfl, 3, _, rfl⟩, ?_⟩ | refine ⟨rfl, ?_⟩
      refine wa_cons ?_
      refine w_bin ?_
      refine w_bin ?_
      refine w_sl ?_
      refine w_name 9 rfl (.inl rfl) rfl ?_
      refine wo_none ?_
      refine wo_some ?_
      refine w_name 10 rfl (.inl rfl) rfl ?_
      refine ⟨_, rfl, ?_⟩
      refine sd_tup ?_
      rw [cut_map_to]
      refine w_tup ?_
      refine wa_cons ?_
      refine w_tup ?_
      refine wa_cons ?_
      refine w_ix ?_
      refine w_ix ?_
      refine w_name 9 rfl (.inl rfl) rfl ?_
      refine w_name 10 rfl (.inl rfl) rfl ?_
      obtain ⟨ce, hce, hcem⟩ := get_of_lt (show r6 < row.length by omega)
      refine ix_tupD _ rfl (map_at hce) ?_
      refine w_int ?_
      refine ix_tupD 0 rfl rfl ?_
      refine wa_cons ?_
      refine w_non ?_
      refine wa_nil ?_
      refine ⟨by simp, ?_⟩
      refine wa_nil ?_
      refine ⟨by simp, ?_⟩
      refine o_addT (by simp only [List.length_map, List.length_take, List.length_cons, List.length_nil]; omega) ?_
      refine w_sl ?_
      refine w_name 9 rfl (.inl rfl) rfl ?_
      refine wo_some ?_
      refine w_bin ?_
      refine w_name 10 rfl (.inl rfl) rfl ?_
      refine w_int ?_
      refine o_addN ?_
      refine ⟨_, rfl, ?_⟩
      refine wo_none ?_
      refine sd_tup ?_
      rw [cut_map_from]
      refine o_addT (by simp only [List.length_append, List.length_map, List.length_take, List.length_drop, List.length_cons, List.length_nil]; omega) ?_
      have erow : D.tup ((row.take r6).map cellD ++ [D.tup [optD ce.1, .non]] ++ (row.drop (r6 + 1)).map cellD) = roomD (row.take r6 ++ [(ce.1, none)] ++ row.drop (r6 + 1)) := by
        unfold roomD
        rw [List.map_append, List.map_append]
        rfl
      rw [erow]
      refine wa_nil ?_
      refine m_append 0 rfl (by rw [List.length_map]; omega) ?_
      refine w_nil ?_
      refine w_nil ?_
      exact ⟨[_, _, _], rfl, ⟨R ++ [row.take r6 ++ [(ce.1, none)] ++ row.drop (r6 + 1)], c1 + 1 + 1, _, _, _, (by rw [List.length_append, hRl]; rfl), (by intro r hr; rcases List.mem_append.mp hr with hr | hr; exact hR r hr; rw [List.mem_singleton] at hr; subst hr; refine ⟨by simp only [List.length_append, List.length_take, List.length_drop, List.length_cons, List.length_nil]; omega, fun x hx => ?_⟩; rcases List.mem_append.mp hx with hx | hx; rcases List.mem_append.mp hx with hx | hx; exact hro x (List.mem_of_mem_take hx); rw [List.mem_singleton] at hx; subst hx; exact ⟨(hro ce hcem).1, fun s e => (nomatch e)⟩; exact hro x (List.mem_of_mem_drop hx)), (by omega), rfl, (by rw [List.map_append]; rfl)⟩⟩
    · -- _law_rooms.append(tuple([_law_cell(_law_pen_here, _law_share, _law_wide, _law_shift, _law_many) for _law_ask in range(_law_asks)]))
      refine w_cons (w_expr ?_)
      refine w_append ?_
      refine w_name 7 rfl (.inl rfl) rfl ?_
      first | refine ⟨.inl ⟨rfl, 0, _, rfl⟩, ?_⟩ | refine ⟨.inl ⟨rfl, 1, _, rfl⟩, ?_⟩ | refine ⟨.inl ⟨rfl, 2, _, rfl⟩, ?_⟩ | refine ⟨.inl ⟨rfl, 3, _, rfl⟩, ?_⟩ | refine ⟨rfl, ?_⟩
      refine wa_cons ?_
      refine w_callTy (T := "tuple") T.b_tuple ?_
      refine wa_cons ?_
      -- comp [_law_cell(_law_pen_here, _law_share, _law_wide, _law_shift, _law_many) for _law_ask in range(_law_asks)]
      refine w_fz0 (w_lcM (own := [("_law_ask", 11)]) (.one 11) (by decide) rfl sc__law_machine.nd (blkOk_by (N := N__law_machine) (sc := defScope s__law_machine) (by decide +kernel)) (fun _ _ _ _ _ => pg_name (i := 11) sc__law_machine.nd rfl (by first | exact .inl rfl | exact .inr rfl)) ?_)
      refine lcW_of ?_
      refine wi_rngN T.b_range ?_
      refine w_name 1 rfl (.inl rfl) rfl ?_
      refine ⟨_, by rfl, by omega, ?_⟩
      refine ⟨by rw [nats_len]; omega, fun i acc μ2 => ∃ (C : List Cell) (c2 : Nat), C.length = i ∧ (∀ x ∈ C, cOk many 8 x) ∧ c2 ≤ c1 + 4 * i ∧ acc = C.map cellD ∧ μ2 = (pr, .lst (R.map roomD)) :: μ.set ip (q, penW ns c2), ⟨[], c1, rfl, (fun x hx => (nomatch hx)), (by omega), rfl, rfl⟩, ?_, ?_⟩
      · rintro p2 i x acc μ2 hx ⟨C, c2, hCl, hC, hc2, rfl, rfl⟩
        obtain ⟨hi, rfl⟩ := nats_get hx
        refine ⟨_, rfl, fun _ _ _ _ _ => ?_⟩
        refine ⟨fun _ _ _ _ _ _ => ?_, fun hb => (nomatch hb)⟩
        refine w_callG G__law_cell hr ?_
        refine wa_cons ?_
        refine w_name 0 rfl (.inr (.inl rfl)) rfl ?_
        refine wa_cons ?_
        refine w_name 3 rfl (.inr (.inl rfl)) rfl ?_
        refine wa_cons ?_
        refine w_name 4 rfl (.inr (.inl rfl)) rfl ?_
        refine wa_cons ?_
        refine w_name 6 rfl (.inr (.inl rfl)) rfl ?_
        refine wa_cons ?_
        refine w_name 2 rfl (.inr (.inl rfl)) rfl ?_
        refine wa_nil ?_
        refine ⟨ns, c2, q, ip + 2, _, x2, _, many, rfl, by walk_at "pen", by omega, by omega, by omega, fun ce c3 μ3 hce hc3 e => ?_⟩
        simp only [List.set_cons_succ, List.set_set] at e
        subst e
        refine ⟨_, rfl, ?_⟩
        exact ⟨C ++ [ce], c3, by rw [List.length_append, hCl]; rfl, (by intro x hx; rcases List.mem_append.mp hx with hx | hx; exact hC x hx; rw [List.mem_singleton] at hx; subst hx; exact hce), by omega, by rw [List.map_append]; rfl, rfl⟩
      rintro p2 acc μ2 ⟨C, c2, hCl, hC, hc2, rfl, rfl⟩
      rw [nats_len] at hCl hc2
      refine ⟨_, _, _, rfl, rfl, ?_⟩
      refine wa_nil ?_
      walk_at "c_tuple"
      refine wa_nil ?_
      refine m_append 0 rfl (by rw [List.length_map]; omega) ?_
      refine w_nil ?_
      refine w_nil ?_
      exact ⟨[_, _, _], rfl, ⟨R ++ [C], c2, _, _, _, (by rw [List.length_append, hRl]; rfl), (by intro r hr; rcases List.mem_append.mp hr with hr | hr; exact hR r hr; rw [List.mem_singleton] at hr; subst hr; exact ⟨hCl, hC⟩), (by omega), rfl, (by rw [List.map_append]; rfl)⟩⟩
  rintro vs μ' ⟨R, c, w8, w9, w10, hRl, hR, hc, rfl, rfl⟩
  refine wSs_rho (ρ' := [_, _, _, _, _, _, _, _, _, _, _, _]) rfl ?_
  -- return (_law_asks, tuple(_law_rooms))
  refine w_cons (w_ret (w_dr ?_))
  refine w_tup ?_
  refine wa_cons ?_
  refine w_name 1 rfl (.inl rfl) rfl ?_
  refine wa_cons ?_
  refine w_callTy (T := "tuple") T.b_tuple ?_
  refine wa_cons ?_
  refine w_name 7 rfl (.inl rfl) rfl ?_
  refine wa_nil ?_
  walk_at "c_tuple"
  refine wa_nil ?_
  refine ⟨by simp, ?_⟩
  exact ⟨_, List.sublist_cons_self _ _, k ⟨asks, R⟩ c _ rfl hRl ⟨hasks.1, hasks.2, by show 0 < R.length; omega, by show R.length ≤ 24; omega, fun r hr => ⟨(hR r hr).1, fun c hc => by show cOk R.length 8 c; rw [hRl]; exact (hR r hr).2 c hc⟩⟩ (by omega) rfl⟩
theorem ok_order (B : Src K mg "_law_order" s__law_order ["_law_pen_here", "_law_many"]) (T : Tx mg) (G__law_take : KnG P w K mg base 1 "_law_take" ["_law_pen_here", "_law_many"] S_take) : KnG P w K mg base 2 "_law_order" ["_law_pen_here", "_law_many"] S_order := by
  refine kn_ofG B sc__law_order (fun ds μ Φ h => by obtain ⟨_, _, _, _, _, rfl, _⟩ := h; rfl) fun f cdv A outer s H E grd hr ds μ Φ h => ?_
  obtain ⟨ns, n, q, ip, many, rfl, hpen, hn, hmany, k⟩ := h
  refine wSs_rho (ρ' := [_, _, _, _]) rfl ?_
  -- _law_left = list(range(_law_many))
  refine w_cons (w_set 2 sc__law_order.nd rfl (.inr rfl) (.inl rfl) ?_)
  refine w_listRg1 rfl T.b_list T.b_range ?_
  refine w_name 1 rfl (.inl rfl) rfl ?_
  refine ⟨many, rfl, by omega, fun pl => ?_⟩
  rw [Int.toNat_natCast, rng_nats]
  -- return [_law_left.pop(_law_take(_law_pen_here, len(_law_left))) for _law_k in range(_law_many)]
  refine w_cons (w_ret (w_dr ?_))
  -- comp [_law_left.pop(_law_take(_law_pen_here, len(_law_left))) for _law_k in range(_law_many)]
  refine w_fz0 (w_lcM (own := [("_law_k", 3)]) (.one 3) (by decide) rfl sc__law_order.nd (blkOk_by (N := N__law_order) (sc := defScope s__law_order) (by decide +kernel)) (fun _ _ _ _ _ => pg_name (i := 3) sc__law_order.nd rfl (by first | exact .inl rfl | exact .inr rfl)) ?_)
  refine lcW_of ?_
  refine wi_rngN T.b_range ?_
  refine w_name 1 rfl (.inl rfl) rfl ?_
  refine ⟨_, by rfl, by omega, ?_⟩
  refine ⟨by rw [nats_len]; omega, fun i acc μ2 => ∃ (l left : List Nat) (c : Nat), (l ++ left).Perm (List.range many) ∧ l.length = i ∧ c ≤ n + i ∧ acc = l.map (fun a : Nat => D.int a) ∧ μ2 = (pl, .lst (left.map fun a : Nat => D.int a)) :: μ.set ip (q, penW ns c), ⟨[], List.range many, n, List.Perm.refl _, rfl, by omega, rfl, by rw [set_same hpen]⟩, ?_, ?_⟩
  · rintro p2 i x acc μ2 hx ⟨l, left, c, hp, hl, hc, rfl, rfl⟩
    obtain ⟨hi, rfl⟩ := nats_get hx
    have hlen := hp.length_eq
    rw [List.length_append, List.length_range] at hlen
    refine ⟨_, rfl, fun _ _ _ _ _ => ?_⟩
    refine ⟨fun _ _ _ _ _ _ => ?_, fun hb => (nomatch hb)⟩
    refine w_popAt ?_
    refine w_name 2 rfl (.inr (.inl rfl)) rfl ?_
    first | refine ⟨.inl ⟨rfl, 0, _, rfl⟩, ?_⟩ | refine ⟨.inl ⟨rfl, 1, _, rfl⟩, ?_⟩ | refine ⟨.inl ⟨rfl, 2, _, rfl⟩, ?_⟩ | refine ⟨.inl ⟨rfl, 3, _, rfl⟩, ?_⟩ | refine ⟨rfl, ?_⟩
    refine wa_cons ?_
    refine w_callG G__law_take hr ?_
    refine wa_cons ?_
    refine w_name 0 rfl (.inr (.inl rfl)) rfl ?_
    refine wa_cons ?_
    refine w_callB (id := "len") T.b_len ?_
    refine wa_cons ?_
    refine w_name 2 rfl (.inr (.inl rfl)) rfl ?_
    refine wa_nil ?_
    refine c_lenP 1 rfl ?_
    rw [List.length_map]
    refine wa_nil ?_
    refine ⟨_, _, _, _, _, rfl, by walk_at "pen", by omega, by omega, fun r1 μ1 hr1 e1 => ?_⟩
    try simp only [List.set_cons_succ, List.set_set, List.set_cons_zero] at e1
    subst e1
    refine wa_nil ?_
    obtain ⟨v, hv, _⟩ := get_of_lt (show r1 < left.length by omega)
    refine m_popAt 1 rfl r1 (map_at hv) (by rw [List.length_map]; omega) ?_
    rw [Oc.map_eraseIdx]
    refine ⟨_, rfl, ?_⟩
    exact ⟨l ++ [v], left.eraseIdx r1, c + 1, perm_erase hp hv, by rw [List.length_append, hl]; rfl, by omega, by rw [List.map_append]; rfl, rfl⟩
  rintro p2 acc μ2 ⟨l, left, c, hp, hl, hc, rfl, rfl⟩
  rw [nats_len] at hl hc
  have hlen := hp.length_eq
  rw [List.length_append, List.length_range] at hlen
  obtain rfl : left = [] := List.eq_nil_of_length_eq_zero (by omega)
  rw [List.append_nil] at hp
  refine ⟨_, _, _, rfl, rfl, ?_⟩
  exact ⟨_, List.sublist_cons_self _ _, k l c _ hp hc rfl⟩
end
end L16

namespace L16
open PySem PySem.Spec L2 Oc
open Evl (Ex)
local macro_rules | `(tactic| walk_at "s") => `(tactic| first | assumption | omega | decide | (simp only [] at *; omega))
local macro_rules | `(tactic| walk_at "Add") => `(tactic| first | refine o_addN ?_ | refine o_add ?_ | refine o_addS (by walk_at "s") ?_ | refine o_addT (by walk_at "s") ?_ | refine o_addL (by walk_at "s") ?_)
local macro_rules | `(tactic| walk_at "Sub") => `(tactic| refine o_sub ?_)
local macro_rules | `(tactic| walk_at "Mult") => `(tactic| refine o_mul (by walk_at "s") ?_)
local macro_rules | `(tactic| walk_at "Mod") => `(tactic| first | refine o_modN (by walk_at "s") ?_ | refine o_mod (by walk_at "s") ?_)
local macro_rules | `(tactic| walk_at "FloorDiv") => `(tactic| first | refine o_divN (by walk_at "s") ?_ | refine o_div (by walk_at "s") ?_)
local macro_rules | `(tactic| walk_at "Pow") => `(tactic| refine o_pow (by walk_at "s") ?_)
local macro_rules | `(tactic| walk_at "LShift") => `(tactic| refine o_shl (by walk_at "s") ?_)
local macro_rules | `(tactic| walk_at "RShift") => `(tactic| refine o_shr (by walk_at "s") ?_)
local macro_rules | `(tactic| walk_at "BitAnd") => `(tactic| refine o_band ?_)
local macro_rules | `(tactic| walk_at "BitXor") => `(tactic| refine o_bxor ?_)
local macro_rules | `(tactic| walk_at "BitOr") => `(tactic| refine o_bor ?_)
local macro_rules | `(tactic| walk_at "Lt") => `(tactic| refine o_lt ?_)
local macro_rules | `(tactic| walk_at "LtE") => `(tactic| refine o_le ?_)
local macro_rules | `(tactic| walk_at "Gt") => `(tactic| refine o_gt ?_)
local macro_rules | `(tactic| walk_at "GtE") => `(tactic| refine o_ge ?_)
local macro_rules | `(tactic| walk_at "Eq") => `(tactic| refine o_eq (by rfl) ?_)
local macro_rules | `(tactic| walk_at "NotEq") => `(tactic| refine o_ne (by rfl) ?_)
local macro_rules | `(tactic| walk_at "Is") => `(tactic| refine o_isN ?_)
local macro_rules | `(tactic| walk_at "IsNot") => `(tactic| refine o_notN ?_)
local macro_rules | `(tactic| walk_at "In") => `(tactic| refine o_in (by first | exact .inl rfl | exact .inr (.inl rfl) | exact .inr (.inr rfl)) (by rfl) (by rfl) ?_)
local macro_rules | `(tactic| walk_at "NotIn") => `(tactic| refine o_nin (by first | exact .inl rfl | exact .inr (.inl rfl) | exact .inr (.inr rfl)) (by rfl) (by rfl) ?_)
local macro_rules | `(tactic| walk_at "c_abs") => `(tactic| refine c_abs ?_)
local macro_rules | `(tactic| walk_at "c_len") => `(tactic| first | refine c_lenL ?_ | refine c_lenC ?_ | refine c_lenT ?_ | refine c_lenS (by walk_at "s") ?_ | refine c_lenP 0 (by first | assumption | rfl) ?_)
local macro_rules | `(tactic| walk_at "c_str") => `(tactic| refine c_str (by walk_at "s") ?_)
local macro_rules | `(tactic| walk_at "c_isinstance") => `(tactic| refine c_isi rfl (by rfl) ?_)
local macro_rules | `(tactic| walk_at "sl") => `(tactic| first | refine sd_tup ?_ | refine sd_lst ?_)
local macro_rules | `(tactic| walk_at "c_tuple") => `(tactic| first | refine c_tupL ?_ | refine c_tupP 0 (by first | assumption | rfl) ?_ | refine c_tupT ?_)
local macro_rules | `(tactic| walk_at "c_int") => `(tactic| first | refine c_intB ?_)
local macro_rules | `(tactic| walk_at "USub") => `(tactic| refine u_neg ?_)
local macro_rules | `(tactic| walk_at "pen") => `(tactic| first | assumption | exact get_set (by assumption) | exact get_set (get_set (by assumption)) | exact get_here | (apply get_cons; walk_at "pen") | (apply get_app; walk_at "pen"))
local macro_rules | `(tactic| walk_at "mu") => `(tactic| simp only [List.set_cons_succ, List.set_set, List.set_cons_zero])
/-! ### walks over pairs: plain facts, for any two machines side by side -/
namespace Sy
abbrev Pair := Nat × Nat
abbrev pairD (p : Pair) : D := .tup [.int p.1, .int p.2]
/-- the asks, the rooms of both, where it fails, where it goes -/
structure Sys where
  asks : Nat
  n1 : Nat
  n2 : Nat
  unl : Pair → Nat → Bool
  nxt : Pair → Nat → Option Pair
def PIn (m : Sys) (p : Pair) : Prop := p.1 < m.n1 ∧ p.2 < m.n2
structure Sys.Ok (m : Sys) : Prop where
  a0 : 0 < m.asks
  cl : ∀ {p q : Pair} {k : Nat}, PIn m p → k < m.asks → m.nxt p k = some q → PIn m q
def AIn (m : Sys) (row : List Nat) : Prop := ∀ a ∈ row, a < m.asks
abbrev unlB (m : Sys) (p : Pair) (k : Nat) : Bool := m.unl p k
abbrev bothF (m : Sys) (p : Pair) (k : Nat) : Option Pair := m.nxt p k
theorem both_in {m : Sys} (hm : m.Ok) {p q : Pair} {k : Nat} (hp : PIn m p) (hk : k < m.asks) (h : bothF m p k = some q) : PIn m q := hm.cl hp hk h
def goF (m : Sys) : Pair → List Nat → Option Pair
  | p, [] => some p
  | p, k :: r => (bothF m p k).bind fun q => goF m q r
theorem go_snoc (m : Sys) : ∀ (u : List Nat) (p : Pair) (k : Nat), goF m p (u ++ [k]) = (goF m p u).bind fun q => bothF m q k
  | [], p, k => by
    show (bothF m p k).bind (fun q => some q) = bothF m p k
    cases bothF m p k <;> rfl
  | a :: u, p, k => by
    show (bothF m p a).bind (fun q => goF m q (u ++ [k])) = ((bothF m p a).bind fun q => goF m q u).bind _
    cases bothF m p a with
    | none => rfl
    | some q => exact go_snoc m u q k
theorem go_in {m : Sys} (hm : m.Ok) : ∀ {u : List Nat} {p q : Pair}, PIn m p → AIn m u → goF m p u = some q → PIn m q
  | [], p, q, hp, _, h => by cases h; exact hp
  | a :: u, p, q, hp, ha, h => by
    have h : (bothF m p a).bind (fun q => goF m q u) = some q := h
    cases e : bothF m p a with
    | none => rw [e] at h; cases h
    | some s =>
      rw [e] at h
      exact go_in hm (both_in hm hp (ha a List.mem_cons_self) e) (fun b hb => ha b (List.mem_cons_of_mem _ hb)) h
def Prt (m : Sys) (p : Pair) (row : List Nat) : Prop := ∃ u k s, row = u ++ [k] ∧ AIn m row ∧ goF m p u = some s ∧ unlB m s k = true
theorem prt_ain {m : Sys} {p : Pair} {row : List Nat} (h : Prt m p row) : AIn m row := by obtain ⟨u, k, s, rfl, h1, _⟩ := h; exact h1
theorem prt_nil {m : Sys} {p : Pair} : ¬ Prt m p [] := by
  rintro ⟨u, k, s, h, _⟩
  have := congrArg List.length h
  rw [List.length_append] at this
  cases this
theorem prt_one {m : Sys} {p : Pair} {k : Nat} : Prt m p [k] ↔ k < m.asks ∧ unlB m p k = true := by
  constructor
  · rintro ⟨u, a, s, h, ha, hg, hu⟩
    have hu0 : u = [] := by
      have := congrArg List.length h
      rw [List.length_append] at this
      exact List.eq_nil_of_length_eq_zero (by simpa using this)
    subst hu0
    cases h
    cases hg
    exact ⟨ha k List.mem_cons_self, hu⟩
  · rintro ⟨h1, h2⟩
    exact ⟨[], k, p, rfl, fun a ha => by rw [List.mem_singleton] at ha; subst ha; exact h1, rfl, h2⟩
theorem prt_cons {m : Sys} {p : Pair} {k : Nat} {r : List Nat} (hr : r ≠ []) : Prt m p (k :: r) ↔ k < m.asks ∧ ∃ q, bothF m p k = some q ∧ Prt m q r := by
  constructor
  · rintro ⟨u, a, s, h, ha, hg, hu⟩
    cases u with
    | nil =>
      cases h
      exact absurd rfl hr
    | cons b u =>
      have e : k = b ∧ r = u ++ [a] := by simpa using h
      obtain ⟨rfl, rfl⟩ := e
      have hg : (bothF m p k).bind (fun q => goF m q u) = some s := hg
      cases e : bothF m p k with
      | none => rw [e] at hg; cases hg
      | some q =>
        rw [e] at hg
        exact ⟨ha k List.mem_cons_self, q, rfl, u, a, s, rfl, fun b hb => ha b (List.mem_cons_of_mem _ hb), hg, hu⟩
  · rintro ⟨h1, q, e, u, a, s, rfl, ha, hg, hu⟩
    refine ⟨k :: u, a, s, rfl, fun b hb => ?_, ?_, hu⟩
    · rcases List.mem_cons.mp hb with rfl | hb
      · exact h1
      · exact ha b hb
    · show (bothF m p k).bind (fun q => goF m q u) = some s
      rw [e]
      exact hg
/-! rows by length, then as tuples: a number each -/
def vl (B : Nat) (l : List Nat) : Nat := l.foldl (fun n k => n * B + (k + 1)) 0
def low (B : Nat) : Nat → Nat
  | 0 => 0
  | n + 1 => low B n + B ^ n
theorem low_mul (B : Nat) : ∀ n, low B n * B + 1 = low B (n + 1)
  | 0 => by simp [low]
  | n + 1 => by
    have ih := low_mul B n
    have e : low B (n + 1) = low B n + B ^ n := rfl
    have e2 : low B (n + 1 + 1) = low B (n + 1) + B ^ (n + 1) := rfl
    rw [e] at ih
    rw [e2, e, Nat.add_mul, Nat.pow_succ]
    omega
theorem low_mono (B : Nat) {a b : Nat} (h : a ≤ b) : low B a ≤ low B b := by
  induction h with
  | refl => exact Nat.le_refl _
  | step _ ih => exact Nat.le_trans ih (Nat.le_add_right _ _)
theorem vl_snoc (B : Nat) (l : List Nat) (a : Nat) : vl B (l ++ [a]) = vl B l * B + (a + 1) := by unfold vl; rw [List.foldl_append]; rfl
theorem vl_mono {B : Nat} {u v : List Nat} {a b : Nat} (ha : a < B) (h : vl B u < vl B v) : vl B (u ++ [a]) < vl B (v ++ [b]) := by
  rw [vl_snoc, vl_snoc]
  have : (vl B u + 1) * B ≤ vl B v * B := Nat.mul_le_mul_right B h
  rw [Nat.add_mul] at this
  omega
theorem vl_mono_le {B : Nat} {u v : List Nat} {a : Nat} (h : vl B u ≤ vl B v) : vl B (u ++ [a]) ≤ vl B (v ++ [a]) := by
  rw [vl_snoc, vl_snoc]
  have : vl B u * B ≤ vl B v * B := Nat.mul_le_mul_right B h
  omega
theorem snoc_ind {P : List Nat → Prop} (h0 : P []) (h1 : ∀ l a, P l → P (l ++ [a])) : ∀ l, P l := by
  intro l
  have : ∀ n (l : List Nat), l.length = n → P l := by
    intro n
    induction n with
    | zero => intro l hl; rw [List.eq_nil_of_length_eq_zero hl]; exact h0
    | succ n ih =>
      intro l hl
      have hne : l ≠ [] := fun e => by subst e; cases hl
      rw [← List.dropLast_concat_getLast hne]
      exact h1 _ _ (ih _ (by rw [List.length_dropLast, hl]; rfl))
  exact this _ l rfl
def Bel (B : Nat) (l : List Nat) : Prop := ∀ a ∈ l, a < B
theorem bel_snoc {B : Nat} {l : List Nat} {a : Nat} (h : Bel B (l ++ [a])) : Bel B l ∧ a < B :=
  ⟨fun b hb => h b (List.mem_append_left _ hb), h a (List.mem_append_right _ List.mem_cons_self)⟩
theorem vl_lo (B : Nat) : ∀ l : List Nat, low B l.length ≤ vl B l := snoc_ind (Nat.le_refl _) fun l a ih => by
  rw [List.length_append, vl_snoc]
  show low B (l.length + 1) ≤ _
  rw [← low_mul]
  have := Nat.mul_le_mul_right B ih
  omega
theorem vl_hi (B : Nat) : ∀ l : List Nat, Bel B l → vl B l + 1 ≤ low B (l.length + 1) := snoc_ind (fun _ => by show 0 + 1 ≤ low B 0 + B ^ 0; simp [low]) fun l a ih h => by
  obtain ⟨h1, h2⟩ := bel_snoc h
  rw [List.length_append, vl_snoc]
  show _ ≤ low B (l.length + 1 + 1)
  rw [← low_mul]
  have := Nat.mul_le_mul_right B (ih h1)
  rw [Nat.add_mul] at this
  omega
theorem vl_len {B : Nat} {u v : List Nat} (h : Bel B u) (hl : u.length < v.length) : vl B u < vl B v := by
  have h1 := vl_hi B u h
  have h2 := vl_lo B v
  have h3 := low_mono B (show u.length + 1 ≤ v.length from hl)
  omega
theorem vl_inj {B : Nat} : ∀ u v : List Nat, Bel B u → Bel B v → vl B u = vl B v → u = v := by
  have H : ∀ n (u v : List Nat), u.length = n → v.length = n → Bel B u → Bel B v → vl B u = vl B v → u = v := by
    intro n
    induction n with
    | zero => intro u v h1 h2 _ _ _; rw [List.eq_nil_of_length_eq_zero h1, List.eq_nil_of_length_eq_zero h2]
    | succ n ih =>
      intro u v h1 h2 b1 b2 e
      have n1 : u ≠ [] := fun e => by subst e; cases h1
      have n2 : v ≠ [] := fun e => by subst e; cases h2
      obtain ⟨u, a, rfl⟩ : ∃ u' a, u = u' ++ [a] := ⟨_, _, (List.dropLast_concat_getLast n1).symm⟩
      obtain ⟨v, b, rfl⟩ : ∃ u' a, v = u' ++ [a] := ⟨_, _, (List.dropLast_concat_getLast n2).symm⟩
      obtain ⟨c1, d1⟩ := bel_snoc b1
      obtain ⟨c2, d2⟩ := bel_snoc b2
      have l1 : u.length = n := by rw [List.length_append] at h1; exact Nat.succ.inj h1
      have l2 : v.length = n := by rw [List.length_append] at h2; exact Nat.succ.inj h2
      rcases Nat.lt_trichotomy (vl B u) (vl B v) with h | h | h
      · have := vl_mono (b := b) d1 h
        omega
      · rw [vl_snoc, vl_snoc, h] at e
        rw [ih _ _ l1 l2 c1 c2 h, show a = b by omega]
      · have := vl_mono (b := a) d2 h
        omega
  intro u v b1 b2 e
  have hl : u.length = v.length := by
    rcases Nat.lt_trichotomy u.length v.length with h | h | h
    · have := vl_len b1 h; omega
    · exact h
    · have := vl_len b2 h; omega
  exact H _ u v rfl hl.symm b1 b2 e
theorem vl_fold (B : Nat) : ∀ (r : List Nat) (n : Nat), r.foldl (fun n k => n * B + (k + 1)) n = n * B ^ r.length + vl B r := by
  refine snoc_ind (fun n => by simp [vl]) fun l a ih n => ?_
  rw [List.foldl_append, ih, vl_snoc, List.length_append]
  show (n * B ^ l.length + vl B l) * B + (a + 1) = n * B ^ (l.length + 1) + (vl B l * B + (a + 1))
  rw [Nat.add_mul, Nat.pow_succ, Nat.mul_assoc]
  omega
theorem vl_cons (B k : Nat) (r : List Nat) : vl B (k :: r) = (k + 1) * B ^ r.length + vl B r := by
  have e : vl B (k :: r) = r.foldl (fun n k => n * B + (k + 1)) (0 * B + (k + 1)) := rfl
  rw [e, vl_fold, Nat.zero_mul, Nat.zero_add]
theorem vl_head {B k k' : Nat} {r r' : List Nat} (h : Bel B r) (hl : r.length = r'.length) (hk : k < k') : vl B (k :: r) < vl B (k' :: r') := by
  rw [vl_cons, vl_cons, ← hl]
  have h1 := vl_hi B r h
  have h2 := vl_lo B r'
  rw [← hl] at h2
  have h3 : (k + 1 + 1) * B ^ r.length ≤ (k' + 1) * B ^ r.length := Nat.mul_le_mul_right _ (by omega)
  have h4 : low B (r.length + 1) = low B r.length + B ^ r.length := rfl
  rw [Nat.add_mul (k + 1)] at h3
  omega
/-- the shortest row that parts, of those as short the first -/
def Best (m : Sys) (p : Pair) (row : List Nat) : Prop := Prt m p row ∧ ∀ row', Prt m p row' → vl m.asks row ≤ vl m.asks row'
theorem best_uniq {m : Sys} {p : Pair} {a b : List Nat} (ha : Best m p a) (hb : Best m p b) : a = b :=
  vl_inj a b (prt_ain ha.1) (prt_ain hb.1) (Nat.le_antisymm (ha.2 b hb.1) (hb.2 a ha.1))
/-! the queue -/
abbrev Ent := Pair × List Nat
abbrev entD (e : Ent) : D := .tup [pairD e.1, rowD e.2]
structure QI (m : Sys) (p0 : Pair) (W : List Ent) (a j : Nat) : Prop where
  nd : (W.map (·.1)).Nodup
  ok : ∀ e ∈ W, PIn m e.1 ∧ AIn m e.2 ∧ goF m p0 e.2 = some e.1 ∧ e.2.length < W.length
  srt : ∀ (i l : Nat) (e f : Ent), i < l → W[i]? = some e → W[l]? = some f → vl m.asks e.2 < vl m.asks f.2
  hd : W[0]? = some (p0, [])
  done : ∀ (i : Nat) (e : Ent), W[i]? = some e → ∀ k, k < m.asks → (i < a ∨ (i = a ∧ k < j)) → unlB m e.1 k = false ∧ ∀ q, bothF m e.1 k = some q → ∃ f ∈ W, f.1 = q ∧ vl m.asks f.2 ≤ vl m.asks (e.2 ++ [k])
  top : ∀ c, W[a]? = some c → ∀ e ∈ W, vl m.asks e.2 < vl m.asks (c.2 ++ [j])
theorem QI.le {m : Sys} {p0 : Pair} {W : List Ent} {a j : Nat} (h : QI m p0 W a j) : W.length ≤ max m.n1 m.n2 * max m.n1 m.n2 := by
  have := pairs_le (n := max m.n1 m.n2) h.nd fun p hp => by
    obtain ⟨e, he, rfl⟩ := List.mem_map.mp hp
    have z := (h.ok e he).1
    exact ⟨Nat.lt_of_lt_of_le z.1 (Nat.le_max_left _ _), Nat.lt_of_lt_of_le z.2 (Nat.le_max_right _ _)⟩
  rwa [List.length_map] at this
theorem qi_start {m : Sys} {p0 : Pair} (hp : PIn m p0) : QI m p0 [(p0, [])] 0 0 where
  nd := by simp
  ok := fun e he => by rw [List.mem_singleton] at he; subst he; exact ⟨hp, fun a ha => (nomatch ha), rfl, Nat.zero_lt_one⟩
  srt := fun i l e f h _ h2 => by
    have := (List.getElem?_eq_some_iff.mp h2).1
    have : l < 1 := this
    omega
  hd := rfl
  done := fun i e _ k _ h => by omega
  top := fun c hc e he => by
    rw [List.mem_singleton] at he
    subst he
    rw [vl_snoc]
    show 0 < _
    omega
theorem qi_none {m : Sys} {p0 : Pair} {W : List Ent} {a j : Nat} {c : Ent} (h : QI m p0 W a j) (hc : W[a]? = some c) (hu : unlB m c.1 j = false) (hb : ∀ q, bothF m c.1 j = some q → q ∈ W.map (·.1)) : QI m p0 W a (j + 1) where
  nd := h.nd
  ok := h.ok
  srt := h.srt
  hd := h.hd
  done := fun i e he k hk hik => by
    by_cases e1 : i = a ∧ k = j
    · obtain ⟨rfl, rfl⟩ := e1
      rw [hc] at he
      cases he
      refine ⟨hu, fun q hq => ?_⟩
      obtain ⟨f, hf, rfl⟩ := List.mem_map.mp (hb q hq)
      exact ⟨f, hf, rfl, Nat.le_of_lt (h.top c hc f hf)⟩
    · exact h.done i e he k hk (by omega)
  top := fun c' hc' e he => by
    have := h.top c' hc' e he
    rw [vl_snoc] at this ⊢
    omega
theorem qi_new {m : Sys} (hm : m.Ok) {p0 : Pair} {W : List Ent} {a j : Nat} {c : Ent} {q : Pair} (h : QI m p0 W a j) (hj : j < m.asks) (hc : W[a]? = some c) (hu : unlB m c.1 j = false) (hb : bothF m c.1 j = some q) (hq : q ∉ W.map (·.1)) : QI m p0 (W ++ [(q, c.2 ++ [j])]) a (j + 1) := by
  have hal : a < W.length := (List.getElem?_eq_some_iff.mp hc).1
  obtain ⟨o1, o2, o3, o4⟩ := h.ok c (List.mem_of_getElem? hc)
  have get : ∀ i e, (W ++ [(q, c.2 ++ [j])])[i]? = some e → W[i]? = some e ∨ (i = W.length ∧ e = (q, c.2 ++ [j])) := fun i e he => by
    by_cases hi : i < W.length
    · rw [List.getElem?_append_left hi] at he
      exact .inl he
    · rw [List.getElem?_append_right (by omega)] at he
      have h0 : i - W.length < 1 := (List.getElem?_eq_some_iff.mp he).1
      rw [show i - W.length = 0 by omega] at he
      cases he
      exact .inr ⟨by omega, rfl⟩
  refine ⟨?_, ?_, ?_, ?_, ?_, ?_⟩
  · rw [List.map_append]
    refine List.nodup_append.mpr ⟨h.nd, by simp, fun x hx y hy e => ?_⟩
    have hy : y = q := by simpa using hy
    subst e hy
    exact hq hx
  · intro e he
    rw [List.length_append]
    rcases List.mem_append.mp he with he | he
    · obtain ⟨a1, a2, a3, a4⟩ := h.ok e he
      exact ⟨a1, a2, a3, by show _ < W.length + 1; omega⟩
    · rw [List.mem_singleton] at he
      subst he
      refine ⟨both_in hm o1 hj hb, fun b hb => ?_, ?_, ?_⟩
      · rcases List.mem_append.mp hb with hb | hb
        · exact o2 b hb
        · rw [List.mem_singleton] at hb; subst hb; exact hj
      · rw [go_snoc, o3]
        exact hb
      · rw [List.length_append]
        show c.2.length + 1 < W.length + 1
        omega
  · intro i l e f hil he hf
    rcases get l f hf with hf | ⟨rfl, rfl⟩
    · rcases get i e he with he | ⟨rfl, rfl⟩
      · exact h.srt i l e f hil he hf
      · have := (List.getElem?_eq_some_iff.mp hf).1
        omega
    · rcases get i e he with he | ⟨rfl, rfl⟩
      · exact h.top c hc e (List.mem_of_getElem? he)
      · omega
  · rw [List.getElem?_append_left (by omega)]
    exact h.hd
  · intro i e he k hk hik
    rcases get i e he with he2 | ⟨rfl, rfl⟩
    · by_cases e1 : i = a ∧ k = j
      · obtain ⟨rfl, rfl⟩ := e1
        rw [hc] at he2
        cases he2
        refine ⟨hu, fun q' hq' => ?_⟩
        rw [hb] at hq'
        cases hq'
        exact ⟨_, List.mem_append_right _ List.mem_cons_self, rfl, Nat.le_refl _⟩
      · obtain ⟨d1, d2⟩ := h.done i e he2 k hk (by omega)
        refine ⟨d1, fun q' hq' => ?_⟩
        obtain ⟨f, hf, h1, h2⟩ := d2 q' hq'
        exact ⟨f, List.mem_append_left _ hf, h1, h2⟩
    · omega
  · intro c' hc' e he
    rw [List.getElem?_append_left hal, hc] at hc'
    cases hc'
    rcases List.mem_append.mp he with he | he
    · have := h.top c hc e he
      rw [vl_snoc] at this ⊢
      omega
    · rw [List.mem_singleton] at he
      subst he
      show vl _ (c.2 ++ [j]) < _
      rw [vl_snoc, vl_snoc]
      omega
theorem qi_next {m : Sys} {p0 : Pair} {W : List Ent} {a : Nat} (h : QI m p0 W a m.asks) : QI m p0 W (a + 1) 0 where
  nd := h.nd
  ok := h.ok
  srt := h.srt
  hd := h.hd
  done := fun i e he k hk hik => h.done i e he k hk (by omega)
  top := fun c' hc' e he => by
    have hl := (List.getElem?_eq_some_iff.mp hc').1
    have hc : W[a]? = some W[a] := List.getElem?_eq_getElem (by omega)
    have h1 := h.top _ hc e he
    have h2 := h.srt a (a + 1) _ _ (Nat.lt_succ_self a) hc hc'
    rw [vl_snoc] at h1 ⊢
    have := Nat.mul_le_mul_right m.asks h2
    rw [Nat.succ_mul] at this
    omega
theorem qi_reach {m : Sys} (hm : m.Ok) {p0 : Pair} {W : List Ent} {a j : Nat} (h : QI m p0 W a j) : ∀ (u : List Nat) (s : Pair), AIn m u → goF m p0 u = some s →
    (∃ i e, i < a ∧ W[i]? = some e ∧ e.1 = s ∧ vl m.asks e.2 ≤ vl m.asks u) ∨ ∃ c, W[a]? = some c ∧ vl m.asks c.2 ≤ vl m.asks u ∧ (vl m.asks c.2 = vl m.asks u → c.1 = s) := by
  have same : ∀ c u s, c ∈ W → AIn m u → goF m p0 u = some s → vl m.asks c.2 = vl m.asks u → c.1 = s := fun c u s hc hu hg e => by
    obtain ⟨o1, o2, o3, o4⟩ := h.ok c hc
    rw [vl_inj c.2 u o2 hu e, hg] at o3
    exact (Option.some.inj o3).symm
  have inW : ∀ f u s, f ∈ W → AIn m u → goF m p0 u = some s → f.1 = s → vl m.asks f.2 ≤ vl m.asks u →
      (∃ i e, i < a ∧ W[i]? = some e ∧ e.1 = s ∧ vl m.asks e.2 ≤ vl m.asks u) ∨ ∃ c, W[a]? = some c ∧ vl m.asks c.2 ≤ vl m.asks u ∧ (vl m.asks c.2 = vl m.asks u → c.1 = s) := fun f u s hf hu hg h1 h2 => by
    obtain ⟨l, hl, e⟩ := List.getElem_of_mem hf
    have hl2 : W[l]? = some f := by rw [List.getElem?_eq_getElem hl, e]
    by_cases hla : l < a
    · exact .inl ⟨l, f, hla, hl2, h1, h2⟩
    · have hc : W[a]? = some W[a] := List.getElem?_eq_getElem (by omega)
      refine .inr ⟨_, hc, ?_, same _ u s (List.mem_of_getElem? hc) hu hg⟩
      by_cases e : a = l
      · subst e
        rw [Option.some.inj (hc.symm.trans hl2)]
        exact h2
      · have := h.srt a l _ _ (by omega) hc hl2
        omega
  refine snoc_ind ?_ ?_
  · intro s hu hg
    exact inW (p0, []) [] s (List.mem_of_getElem? h.hd) hu hg (by cases hg; rfl) (Nat.le_refl _)
  · intro u k ih s hu hg
    obtain ⟨hu1, hk⟩ := bel_snoc (B := m.asks) hu
    have hg0 := hg
    rw [go_snoc] at hg
    cases hs : goF m p0 u with
    | none => rw [hs] at hg; cases hg
    | some s' =>
      rw [hs] at hg
      rcases ih s' hu1 hs with ⟨i, e, hi, he, h1, h2⟩ | ⟨c, hc, h2, _⟩
      · obtain ⟨_, d2⟩ := h.done i e he k hk (.inl hi)
        obtain ⟨f, hf, h3, h4⟩ := d2 s (by rw [h1]; exact hg)
        exact inW f (u ++ [k]) s hf hu hg0 h3 (Nat.le_trans h4 (vl_mono_le h2))
      · refine .inr ⟨c, hc, ?_, same _ _ _ (List.mem_of_getElem? hc) hu hg0⟩
        rw [vl_snoc]
        have : vl m.asks u * 1 ≤ vl m.asks u * m.asks := Nat.mul_le_mul_left _ hm.a0
        omega
theorem qi_best {m : Sys} (hm : m.Ok) {p0 : Pair} {W : List Ent} {a j : Nat} {c : Ent} (h : QI m p0 W a j) (hj : j < m.asks) (hc : W[a]? = some c) (hu : unlB m c.1 j = true) : Best m p0 (c.2 ++ [j]) := by
  obtain ⟨o1, o2, o3, o4⟩ := h.ok c (List.mem_of_getElem? hc)
  refine ⟨⟨c.2, j, c.1, rfl, fun b hb => ?_, o3, hu⟩, ?_⟩
  · rcases List.mem_append.mp hb with hb | hb
    · exact o2 b hb
    · rw [List.mem_singleton] at hb; subst hb; exact hj
  · rintro row' ⟨u, k, s, rfl, ha, hg, hu2⟩
    obtain ⟨hu1, hk⟩ := bel_snoc (B := m.asks) ha
    rcases qi_reach hm h u s hu1 hg with ⟨i, e, hi, he, h1, h2⟩ | ⟨c', hc', h2, h3⟩
    · have := (h.done i e he k hk (.inl hi)).1
      rw [h1, hu2] at this
      cases this
    · rw [hc] at hc'
      cases hc'
      by_cases e : vl m.asks c.2 = vl m.asks u
      · have hs := h3 e
        rw [vl_snoc, vl_snoc, e]
        by_cases hkj : k < j
        · have := (h.done a c hc k hk (.inr ⟨rfl, hkj⟩)).1
          rw [hs, hu2] at this
          cases this
        · omega
      · exact Nat.le_of_lt (vl_mono hj (by omega))
theorem qi_end {m : Sys} (hm : m.Ok) {p0 : Pair} {W : List Ent} {a j : Nat} (h : QI m p0 W a j) (hc : W[a]? = none) (row : List Nat) : ¬ Prt m p0 row := by
  rintro ⟨u, k, s, rfl, ha, hg, hu2⟩
  obtain ⟨hu1, hk⟩ := bel_snoc (B := m.asks) ha
  rcases qi_reach hm h u s hu1 hg with ⟨i, e, hi, he, h1, h2⟩ | ⟨c', hc', h2, h3⟩
  · have := (h.done i e he k hk (.inl hi)).1
    rw [h1, hu2] at this
    cases this
  · rw [hc] at hc'
    cases hc'
/-! rounds from behind -/
end Sy
/-! ### standing: one machine in another's place -/
/-- what fails at a cell beside another one -/
def saysB (c d : Cell) : Bool := c.2.isSome && !(c.2 == d.2)
def goesB (c d : Cell) : Bool := c.1.isSome && d.1.isNone
def badW (c d : Cell) : Bool := saysB c d || goesB c d
def wordD (c d : Cell) : D := if saysB c d then .str "says" else if goesB c d then .str "goes" else .non
def nextW (c d : Cell) : Option (Nat × Nat) := match c.1, d.1 with
  | some x, some y => some (x, y)
  | _, _ => none
theorem word_isN (c d : Cell) : (!D.isN (wordD c d)) = badW c d := by
  unfold wordD badW
  cases saysB c d <;> cases goesB c d <;> rfl
theorem opt_ne (x : Nat) (y : Option Nat) : (!D.eqf (optD (some x)) (optD y)) = ((some x).isSome && !(some x == y)) := by
  cases y with
  | none => rfl
  | some y =>
    show (!((x : Int) == (y : Int))) = (true && !(some x == some y))
    rw [Bool.true_and]
    congr 1
    rw [Bool.eq_iff_iff, beq_iff_eq, beq_iff_eq]
    constructor
    · intro h; rw [show x = y by omega]
    · intro h; cases h; rfl
theorem isN_none {x : Option Nat} (h : (!D.isN (optD x)) = false) : x = none := by
  cases x with
  | none => rfl
  | some n => cases h
theorem notN_some {x : Option Nat} (h : (!D.isN (optD x)) = true) : ∃ n, x = some n := by
  cases x with
  | none => cases h
  | some n => exact ⟨n, rfl⟩
def stS (M N : Mach) : Sy.Sys := ⟨M.asks, M.rooms.length, N.rooms.length, fun p k => badW (M.cell p.1 k) (N.cell p.2 k), fun p k => nextW (M.cell p.1 k) (N.cell p.2 k)⟩
theorem st_ok {M N : Mach} {most : Nat} (hM : M.Ok most) (hN : N.Ok most) (ha : M.asks = N.asks) : (stS M N).Ok where
  a0 := hM.a0
  cl := fun {p q k} hp hk h => by
    have h1 := (mach_at hM hp.1 hk).2.2.1
    have h2 := (mach_at hN hp.2 (show k < N.asks by rw [← ha]; exact hk)).2.2.1
    have h : nextW (M.cell p.1 k) (N.cell p.2 k) = some q := h
    unfold nextW at h
    split at h
    · rename_i x y e1 e2
      cases h
      exact ⟨h1 _ e1, h2 _ e2⟩
    · cases h
/-- the pairs to which rows lead -/
def Rch (M N : Mach) (p : Nat × Nat) : Prop := ∃ u, Sy.AIn (stS M N) u ∧ Sy.goF (stS M N) (0, 0) u = some p
structure IsStood (M N : Mach) (L : List (Nat × Nat)) : Prop where
  srt : L.Pairwise leP
  nd : L.Nodup
  iff : ∀ p, p ∈ L ↔ Rch M N p
  no : ∀ row, ¬ Sy.Prt (stS M N) (0, 0) row
theorem stood_uniq {M N : Mach} {L L' : List (Nat × Nat)} (h : IsStood M N L) (h' : IsStood M N L') : L = L' :=
  leP_uniq L L' (nodup_perm h.nd h'.nd fun p => (h.iff p).trans (h'.iff p).symm) h.srt h'.srt
def rowT (W : List Sy.Ent) : List (List Key × D) := W.map fun e => (([.inl (e.1.1 : Int), .inl (e.1.2 : Int)] : List Key), rowD e.2)
abbrev pk2 (p : Nat × Nat) : List Key := [.inl (p.1 : Int), .inl (p.2 : Int)]
theorem pk2_inj {p q : Nat × Nat} (h : pk2 p = pk2 q) : p = q := by
  injection h with h1 h2
  injection h2 with h3 h4
  injection h1 with h1
  injection h3 with h3
  exact Prod.ext (by omega) (by omega)
theorem rowT_get {W : List Sy.Ent} (nd : (W.map (·.1)).Nodup) {a : Nat} {c : Sy.Ent} (hc : W[a]? = some c) : valD (rowT W) (pk2 c.1) = some (rowD c.2) :=
  valD_some (f := fun e : Sy.Ent => pk2 e.1) (g := fun e => rowD e.2) ⟨c, List.mem_of_getElem? hc, rfl⟩ fun e he e2 => by
    have e3 := pk2_inj e2
    obtain ⟨i, hi, rfl⟩ := List.mem_iff_getElem.mp he
    obtain ⟨hl, rfl⟩ := List.getElem?_eq_some_iff.mp hc
    have := List.pairwise_iff_getElem.mp (List.nodup_iff_pairwise_ne.mp nd)
    rcases Nat.lt_trichotomy i a with h | h | h
    · have z := this i a (by simpa using hi) (by simpa using hl) h
      rw [List.getElem_map, List.getElem_map] at z
      exact absurd e3 z
    · subst h; rfl
    · have z := this a i (by simpa using hl) (by simpa using hi) h
      rw [List.getElem_map, List.getElem_map] at z
      exact absurd e3.symm z
theorem rowT_in (W : List Sy.Ent) (q : Nat × Nat) : (valD (rowT W) (pk2 q)).isSome = decide (q ∈ W.map (·.1)) := by
  by_cases h : q ∈ W.map (·.1)
  · rw [decide_eq_true h]
    obtain ⟨e, he, e2⟩ := List.mem_map.mp h
    cases z : valD (rowT W) (pk2 q) with
    | some x => rfl
    | none =>
      exfalso
      have := valD_any (pk2 q) (rowT W)
      rw [z] at this
      have h2 : (rowT W).any (fun kv => decide (kv.1 = pk2 q)) = true := List.any_eq_true.mpr ⟨_, List.mem_map.mpr ⟨e, he, rfl⟩, by simp [e2]⟩
      rw [h2] at this
      cases this
  · rw [decide_eq_false h]
    have : valD (rowT W) (pk2 q) = none := valD_none (f := fun e : Sy.Ent => pk2 e.1) (g := fun e => rowD e.2) fun e he e2 => h (List.mem_map.mpr ⟨e, he, pk2_inj e2⟩)
    rw [this]
    rfl
theorem stood_end {M N : Mach} {W : List Sy.Ent} {a : Nat} (hS : (stS M N).Ok) (h : Sy.QI (stS M N) (0, 0) W a 0) (hc : W[a]? = none) {L : List (Nat × Nat)} (hp : L.Perm (W.map (·.1))) (hs : L.Pairwise leP) : IsStood M N L := by
  refine ⟨hs, hp.nodup_iff.mpr h.nd, fun p => ?_, fun row => Sy.qi_end hS h hc row⟩
  rw [hp.mem_iff, List.mem_map]
  constructor
  · rintro ⟨e, he, rfl⟩
    obtain ⟨_, h1, h2, _⟩ := h.ok e he
    exact ⟨e.2, h1, h2⟩
  · rintro ⟨u, h1, h2⟩
    rcases Sy.qi_reach hS h u p h1 h2 with ⟨i, e, _, he, rfl, _⟩ | ⟨c, hc', _⟩
    · exact ⟨e, List.mem_of_getElem? he, rfl⟩
    · rw [hc] at hc'; cases hc'
def S_alike : FS := fun ds μ Φ => ∃ (M N : Mach), ds = [machD M, machD N] ∧ M.asks = N.asks ∧ Φ .non μ
def S_word : FS := fun ds μ Φ => ∃ (c d : Cell), ds = [cellD c, cellD d] ∧ Φ (wordD c d) μ
/-- what stands tells -/
def StR (M N : Mach) (μ : Mu) (d : D) (μ1 : Mu) : Prop := (∃ row, Sy.Best (stS M N) (0, 0) row ∧ d = .tup [.str "no", rowD row] ∧ μ1 = μ ∧ row.length ≤ 20000) ∨ ∃ (L : List (Nat × Nat)) (q : Addr), IsStood M N L ∧ d = .tup [.str "yes", .ptr q] ∧ μ1 = (q, .lst (L.map natP)) :: μ
theorem StR.sub {M N : Mach} {μ μ1 : Mu} {d : D} (h : StR M N μ d μ1) : μ.Sublist μ1 := by
  rcases h with ⟨_, _, _, rfl, _⟩ | ⟨_, _, _, _, rfl⟩
  · exact List.Sublist.refl _
  · exact List.sublist_cons_self _ _
def S_stands : FS := fun ds μ Φ => ∃ (M N : Mach) (most : Nat), ds = [machD M, machD N] ∧ M.Ok most ∧ N.Ok most ∧ M.asks = N.asks ∧ most ≤ 100 ∧ ∀ d μ1, StR M N μ d μ1 → Φ d μ1
section
variable {P : Program} {w : World} {K : PySem.W.Frag} {mg : Str → Option Value} {base : Heap}
theorem ok_alike (B : Src K mg "need_alike" s_need_alike ["machine", "other"]) (T : Tx mg)  : KnG P w K mg base 1 "need_alike" ["machine", "other"] S_alike := by
  refine kn_ofG B sc_need_alike (fun ds μ Φ h => by obtain ⟨_, _, rfl, _⟩ := h; rfl) fun f cdv A outer s H E grd hr ds μ Φ h => ?_
  obtain ⟨M, N, rfl, ha, k⟩ := h
  refine wSs_rho (ρ' := [_, _]) rfl ?_
  -- if machine[0] != other[0]:
  refine w_cons (w_if ?_)
  refine wt_cmp ?_
  refine w_ix ?_
  refine w_name 0 rfl (.inl rfl) rfl ?_
  refine w_int ?_
  first | refine ix_tupD 0 rfl rfl ?_ | refine ix_lstD 0 rfl rfl ?_ | refine ix_tupD 0 rfl (by assumption) ?_ | refine ix_lstD 0 rfl (by assumption) ?_ | refine ix_ptrD 0 rfl 0 rfl rfl ?_ | refine ix_ptrD 1 rfl 0 rfl rfl ?_ | refine ix_ptrD 2 rfl 0 rfl rfl ?_
  refine w_ix ?_
  refine w_name 1 rfl (.inl rfl) rfl ?_
  refine w_int ?_
  first | refine ix_tupD 0 rfl rfl ?_ | refine ix_lstD 0 rfl rfl ?_ | refine ix_tupD 0 rfl (by assumption) ?_ | refine ix_lstD 0 rfl (by assumption) ?_ | refine ix_ptrD 0 rfl 0 rfl rfl ?_ | refine ix_ptrD 1 rfl 0 rfl rfl ?_ | refine ix_ptrD 2 rfl 0 rfl rfl ?_
  refine o_ne (by rfl) ?_
  rw [ha]
  refine ⟨_, rfl, ?_⟩
  refine ⟨fun hb => ?_, fun hb => ?_⟩
  · -- raise Unlike('unlike counts of asks')
    refine w_cons (w_never ?_)
    simp [D.eqf] at hb
  refine w_nil ?_
  refine w_nil ?_
  exact k
theorem ok_word (B : Src K mg "cells_word" s_cells_word ["cell", "beside"]) (T : Tx mg)  : KnG P w K mg base 1 "cells_word" ["cell", "beside"] S_word := by
  refine kn_ofG B sc_cells_word (fun ds μ Φ h => by obtain ⟨_, _, rfl, _⟩ := h; rfl) fun f cdv A outer s H E grd hr ds μ Φ h => ?_
  obtain ⟨c, d, rfl, k⟩ := h
  have ew : wordD c d = if saysB c d then .str "says" else if goesB c d then .str "goes" else .non := rfl
  refine wSs_rho (ρ' := [_, _]) rfl ?_
  -- if cell[1] is not None and cell[1] != beside[1]:
  refine w_cons (w_if ?_)
  refine wt_b ((saysB c d)) ?_ ?_
  · refine wt_w ?_
    refine ww_and ?_
    refine wt_cmp ?_
    refine w_ix ?_
    refine w_name 0 rfl (.inl rfl) rfl ?_
    refine w_int ?_
    first | refine ix_tupD 1 rfl rfl ?_ | refine ix_lstD 1 rfl rfl ?_ | refine ix_tupD 1 rfl (by assumption) ?_ | refine ix_lstD 1 rfl (by assumption) ?_ | refine ix_ptrD 0 rfl 1 rfl rfl ?_ | refine ix_ptrD 1 rfl 1 rfl rfl ?_ | refine ix_ptrD 2 rfl 1 rfl rfl ?_
    refine w_non ?_
    walk_at "IsNot"
    refine ⟨_, rfl, ?_⟩
    refine ⟨fun hb0 => ?_, fun hb0 => ⟨(by unfold saysB; cases e : c.2 with | none => rfl | some x => rw [e] at hb0; cases hb0), rfl⟩⟩
    refine ww_and1 ?_
    refine wt_cmp ?_
    refine w_ix ?_
    refine w_name 0 rfl (.inl rfl) rfl ?_
    refine w_int ?_
    first | refine ix_tupD 1 rfl rfl ?_ | refine ix_lstD 1 rfl rfl ?_ | refine ix_tupD 1 rfl (by assumption) ?_ | refine ix_lstD 1 rfl (by assumption) ?_ | refine ix_ptrD 0 rfl 1 rfl rfl ?_ | refine ix_ptrD 1 rfl 1 rfl rfl ?_ | refine ix_ptrD 2 rfl 1 rfl rfl ?_
    refine w_ix ?_
    refine w_name 1 rfl (.inl rfl) rfl ?_
    refine w_int ?_
    first | refine ix_tupD 1 rfl rfl ?_ | refine ix_lstD 1 rfl rfl ?_ | refine ix_tupD 1 rfl (by assumption) ?_ | refine ix_lstD 1 rfl (by assumption) ?_ | refine ix_ptrD 0 rfl 1 rfl rfl ?_ | refine ix_ptrD 1 rfl 1 rfl rfl ?_ | refine ix_ptrD 2 rfl 1 rfl rfl ?_
    obtain ⟨x, hx⟩ : ∃ x, c.2 = some x := by cases e : c.2 with | none => rw [e] at hb0; cases hb0 | some x => exact ⟨x, rfl⟩
    refine o_ne (by rw [hx]; cases d.2 <;> rfl) ?_
    refine ⟨_, rfl, ?_⟩
    exact ⟨(by unfold saysB; rw [hx]; exact opt_ne x d.2), rfl⟩
  refine ⟨fun hb => ?_, fun hb_ => ?_⟩
  · -- return 'says'
    refine w_cons (w_ret ?_)
    refine w_str ?_
    rw [ew, hb] at k
    exact k
  refine w_nil ?_
  -- if cell[0] is not None and beside[0] is None:
  refine w_cons (w_if ?_)
  refine wt_b ((goesB c d)) ?_ ?_
  · refine wt_w ?_
    refine ww_and ?_
    refine wt_cmp ?_
    refine w_ix ?_
    refine w_name 0 rfl (.inl rfl) rfl ?_
    refine w_int ?_
    first | refine ix_tupD 0 rfl rfl ?_ | refine ix_lstD 0 rfl rfl ?_ | refine ix_tupD 0 rfl (by assumption) ?_ | refine ix_lstD 0 rfl (by assumption) ?_ | refine ix_ptrD 0 rfl 0 rfl rfl ?_ | refine ix_ptrD 1 rfl 0 rfl rfl ?_ | refine ix_ptrD 2 rfl 0 rfl rfl ?_
    refine w_non ?_
    walk_at "IsNot"
    refine ⟨_, rfl, ?_⟩
    refine ⟨fun hb0 => ?_, fun hb0 => ⟨(by unfold goesB; cases e : c.1 with | none => rfl | some x => rw [e] at hb0; cases hb0), rfl⟩⟩
    refine ww_and1 ?_
    refine wt_cmp ?_
    refine w_ix ?_
    refine w_name 1 rfl (.inl rfl) rfl ?_
    refine w_int ?_
    first | refine ix_tupD 0 rfl rfl ?_ | refine ix_lstD 0 rfl rfl ?_ | refine ix_tupD 0 rfl (by assumption) ?_ | refine ix_lstD 0 rfl (by assumption) ?_ | refine ix_ptrD 0 rfl 0 rfl rfl ?_ | refine ix_ptrD 1 rfl 0 rfl rfl ?_ | refine ix_ptrD 2 rfl 0 rfl rfl ?_
    refine w_non ?_
    walk_at "Is"
    refine ⟨_, rfl, ?_⟩
    exact ⟨(by unfold goesB; cases e : c.1 with | none => rw [e] at hb0; cases hb0 | some x => cases d.1 <;> rfl), rfl⟩
  refine ⟨fun hb => ?_, fun hb => ?_⟩
  · -- return 'goes'
    refine w_cons (w_ret ?_)
    refine w_str ?_
    rw [ew, hb, hb_] at k
    exact k
  refine w_nil ?_
  -- return None
  refine w_cons (w_ret ?_)
  refine w_non ?_
  rw [ew, hb, hb_] at k
  exact k
end
end L16

namespace L16
open PySem PySem.Spec L2 Oc
open Evl (Ex)
local macro_rules | `(tactic| walk_at "s") => `(tactic| first | assumption | omega | decide | (simp only [] at *; omega))
local macro_rules | `(tactic| walk_at "Add") => `(tactic| first | refine o_addN ?_ | refine o_add ?_ | refine o_addS (by walk_at "s") ?_ | refine o_addT (by walk_at "s") ?_ | refine o_addL (by walk_at "s") ?_)
local macro_rules | `(tactic| walk_at "Sub") => `(tactic| refine o_sub ?_)
local macro_rules | `(tactic| walk_at "Mult") => `(tactic| refine o_mul (by walk_at "s") ?_)
local macro_rules | `(tactic| walk_at "Mod") => `(tactic| first | refine o_modN (by walk_at "s") ?_ | refine o_mod (by walk_at "s") ?_)
local macro_rules | `(tactic| walk_at "FloorDiv") => `(tactic| first | refine o_divN (by walk_at "s") ?_ | refine o_div (by walk_at "s") ?_)
local macro_rules | `(tactic| walk_at "Pow") => `(tactic| refine o_pow (by walk_at "s") ?_)
local macro_rules | `(tactic| walk_at "LShift") => `(tactic| refine o_shl (by walk_at "s") ?_)
local macro_rules | `(tactic| walk_at "RShift") => `(tactic| refine o_shr (by walk_at "s") ?_)
local macro_rules | `(tactic| walk_at "BitAnd") => `(tactic| refine o_band ?_)
local macro_rules | `(tactic| walk_at "BitXor") => `(tactic| refine o_bxor ?_)
local macro_rules | `(tactic| walk_at "BitOr") => `(tactic| refine o_bor ?_)
local macro_rules | `(tactic| walk_at "Lt") => `(tactic| refine o_lt ?_)
local macro_rules | `(tactic| walk_at "LtE") => `(tactic| refine o_le ?_)
local macro_rules | `(tactic| walk_at "Gt") => `(tactic| refine o_gt ?_)
local macro_rules | `(tactic| walk_at "GtE") => `(tactic| refine o_ge ?_)
local macro_rules | `(tactic| walk_at "Eq") => `(tactic| refine o_eq (by rfl) ?_)
local macro_rules | `(tactic| walk_at "NotEq") => `(tactic| refine o_ne (by rfl) ?_)
local macro_rules | `(tactic| walk_at "Is") => `(tactic| refine o_isN ?_)
local macro_rules | `(tactic| walk_at "IsNot") => `(tactic| refine o_notN ?_)
local macro_rules | `(tactic| walk_at "In") => `(tactic| refine o_in (by first | exact .inl rfl | exact .inr (.inl rfl) | exact .inr (.inr rfl)) (by rfl) (by rfl) ?_)
local macro_rules | `(tactic| walk_at "NotIn") => `(tactic| refine o_nin (by first | exact .inl rfl | exact .inr (.inl rfl) | exact .inr (.inr rfl)) (by rfl) (by rfl) ?_)
local macro_rules | `(tactic| walk_at "c_abs") => `(tactic| refine c_abs ?_)
local macro_rules | `(tactic| walk_at "c_len") => `(tactic| first | refine c_lenL ?_ | refine c_lenC ?_ | refine c_lenT ?_ | refine c_lenS (by walk_at "s") ?_ | refine c_lenP 0 (by first | assumption | rfl) ?_)
local macro_rules | `(tactic| walk_at "c_str") => `(tactic| refine c_str (by walk_at "s") ?_)
local macro_rules | `(tactic| walk_at "c_isinstance") => `(tactic| refine c_isi rfl (by rfl) ?_)
local macro_rules | `(tactic| walk_at "sl") => `(tactic| first | refine sd_tup ?_ | refine sd_lst ?_)
local macro_rules | `(tactic| walk_at "c_tuple") => `(tactic| first | refine c_tupL ?_ | refine c_tupP 0 (by first | assumption | rfl) ?_ | refine c_tupT ?_)
local macro_rules | `(tactic| walk_at "c_int") => `(tactic| first | refine c_intB ?_)
local macro_rules | `(tactic| walk_at "USub") => `(tactic| refine u_neg ?_)
local macro_rules | `(tactic| walk_at "pen") => `(tactic| first | assumption | exact get_set (by assumption) | exact get_set (get_set (by assumption)) | exact get_here | (apply get_cons; walk_at "pen") | (apply get_app; walk_at "pen"))
local macro_rules | `(tactic| walk_at "mu") => `(tactic| simp only [List.set_cons_succ, List.set_set, List.set_cons_zero])
/-! ### machines that stand in another's place, as the laws k16..k20 make them -/
theorem zip_same {α : Type} (f g : α → D) : ∀ l : List α, zipD (l.map f) (l.map g) = l.map fun x => .tup [f x, g x]
  | [] => rfl
  | x :: l => by
    have := zip_same f g l
    unfold zipD at *
    rw [List.map_cons, List.map_cons, List.zip_cons_cons, List.map_cons, this, List.map_cons]
/-- N's cell keeps what c tells -/
def CovC (n many : Nat) (c d : Cell) : Prop := (∀ x, c.2 = some x → d.2 = some x) ∧ (∀ g, c.1 = some g → ∃ x, d.1 = some x ∧ x % many = g) ∧ cOk n 8 d
/-- N stands in M's place, its rooms told by φ -/
def Cov (M N : Mach) : Prop := ∃ φ : Nat → Nat, φ 0 = 0 ∧ ∀ s, s < N.rooms.length → φ s < M.rooms.length ∧ ∀ a, a < M.asks → (∀ x, (M.cell (φ s) a).2 = some x → (N.cell s a).2 = some x) ∧ ∀ g, (M.cell (φ s) a).1 = some g → ∃ x, (N.cell s a).1 = some x ∧ φ x = g
theorem Cov.self (M : Mach) : Cov M M := ⟨id, rfl, fun s hs => ⟨hs, fun a _ => ⟨fun x h => h, fun g h => ⟨g, h, rfl⟩⟩⟩⟩
theorem cov_go {M N : Mach} {most : Nat} (hM : M.Ok most) (hN : N.Ok most) (ha : M.asks = N.asks) {φ : Nat → Nat} (h0 : φ 0 = 0) (h : ∀ s, s < N.rooms.length → φ s < M.rooms.length ∧ ∀ a, a < M.asks → (∀ x, (M.cell (φ s) a).2 = some x → (N.cell s a).2 = some x) ∧ ∀ g, (M.cell (φ s) a).1 = some g → ∃ x, (N.cell s a).1 = some x ∧ φ x = g) (u : List Nat) :
    ∀ p : Nat × Nat, Sy.AIn (stS M N) u → Sy.goF (stS M N) (0, 0) u = some p → φ p.2 = p.1 := by
  refine Sy.snoc_ind (P := fun u => ∀ p : Nat × Nat, Sy.AIn (stS M N) u → Sy.goF (stS M N) (0, 0) u = some p → φ p.2 = p.1) ?_ ?_ u
  · intro p _ e
    cases e
    exact h0
  · intro l k ih p hA e
    have hAl : Sy.AIn (stS M N) l := fun z hz => hA z (List.mem_append_left _ hz)
    have hk : k < M.asks := hA k (List.mem_append_right _ (List.mem_singleton.mpr rfl))
    rw [Sy.go_snoc] at e
    cases e1 : Sy.goF (stS M N) (0, 0) l with
    | none => rw [e1] at e; cases e
    | some q =>
      rw [e1] at e
      have hq := ih q hAl e1
      have hpin := Sy.go_in (st_ok hM hN ha) (show Sy.PIn (stS M N) (0, 0) from ⟨hM.r0, hN.r0⟩) hAl e1
      have e : nextW (M.cell q.1 k) (N.cell q.2 k) = some p := e
      obtain ⟨_, h2⟩ := h q.2 hpin.2
      obtain ⟨_, h4⟩ := h2 k hk
      rw [hq] at h4
      unfold nextW at e
      split at e
      · rename_i x y e2 e3
        cases e
        obtain ⟨z, h5, h6⟩ := h4 x e2
        rw [e3] at h5
        cases h5
        exact h6
      · cases e
theorem cov_no {M N : Mach} {most : Nat} (hM : M.Ok most) (hN : N.Ok most) (ha : M.asks = N.asks) (h : Cov M N) (row : List Nat) : ¬ Sy.Prt (stS M N) (0, 0) row := by
  obtain ⟨φ, h0, hc⟩ := h
  rintro ⟨u, k, p, rfl, hA, hg, hb⟩
  have hAl : Sy.AIn (stS M N) u := fun z hz => hA z (List.mem_append_left _ hz)
  have hk : k < M.asks := hA k (List.mem_append_right _ (List.mem_singleton.mpr rfl))
  have hq := cov_go hM hN ha h0 hc u p hAl hg
  have hpin := Sy.go_in (st_ok hM hN ha) (show Sy.PIn (stS M N) (0, 0) from ⟨hM.r0, hN.r0⟩) hAl hg
  obtain ⟨_, h2⟩ := hc p.2 hpin.2
  obtain ⟨h3, h4⟩ := h2 k hk
  rw [hq] at h3 h4
  have hb : badW (M.cell p.1 k) (N.cell p.2 k) = true := hb
  unfold badW saysB goesB at hb
  rw [Bool.or_eq_true, Bool.and_eq_true, Bool.and_eq_true] at hb
  rcases hb with ⟨z1, z2⟩ | ⟨z1, z2⟩
  · obtain ⟨x, hx⟩ := Option.isSome_iff_exists.mp z1
    rw [h3 x hx, hx] at z2
    simp at z2
  · obtain ⟨g, hg⟩ := Option.isSome_iff_exists.mp z1
    obtain ⟨x, hx, _⟩ := h4 g hg
    rw [hx] at z2
    cases z2
/-- rooms in another order -/
def nameC (π : List Nat) (c : Cell) : Cell := (c.1.map fun g => π.getD g 0, c.2)
structure Iso (M N : Mach) (π : List Nat) : Prop where
  perm : π.Perm (List.range M.rooms.length)
  zero : π[0]? = some 0
  len : N.rooms.length = M.rooms.length
  cell : ∀ r s a, π[r]? = some s → a < M.asks → N.cell s a = nameC π (M.cell r a)
theorem cell_of {M : Mach} {most r a : Nat} (hm : M.Ok most) (hr : r < M.rooms.length) (ha : a < M.asks) : ∃ row c, M.rooms[r]? = some row ∧ row[a]? = some c ∧ M.cell r a = c := by
  obtain ⟨hl, _⟩ := hm.ok _ (List.getElem_mem hr)
  have ha' : a < (M.rooms[r]).length := by rw [hl]; exact ha
  refine ⟨M.rooms[r], (M.rooms[r])[a], List.getElem?_eq_getElem hr, List.getElem?_eq_getElem ha', ?_⟩
  unfold Mach.cell
  rw [List.getD_eq_getElem?_getD (l := M.rooms), List.getElem?_eq_getElem hr]
  show (M.rooms[r]).getD a (none, none) = _
  rw [List.getD_eq_getElem?_getD, List.getElem?_eq_getElem ha']
  rfl
theorem cell_eq {M : Mach} {r a : Nat} {row : List Cell} {c : Cell} (h1 : M.rooms[r]? = some row) (h2 : row[a]? = some c) : M.cell r a = c := by
  unfold Mach.cell
  rw [List.getD_eq_getElem?_getD (l := M.rooms), h1]
  show row.getD a (none, none) = _
  rw [List.getD_eq_getElem?_getD, h2]
  rfl
theorem cov_iso {M M1 N : Mach} {most : Nat} (h1 : M1.Ok most) (ha : M1.asks = M.asks) (hc : Cov M M1) {π : List Nat} (hi : Iso M1 N π) : Cov M N := by
  obtain ⟨φ, h0, h⟩ := hc
  have hpl := hi.perm.length_eq
  rw [List.length_range] at hpl
  have hnd : π.Nodup := hi.perm.nodup_iff.mpr List.nodup_range
  have hinv : ∀ s, s < N.rooms.length → ∃ r, r < M1.rooms.length ∧ π[r]? = some s ∧ π.idxOf s = r := fun s hs => by
    have hm : s ∈ π := hi.perm.mem_iff.mpr (List.mem_range.mpr (by rw [← hi.len]; exact hs))
    have hlt := List.idxOf_lt_length_of_mem hm
    refine ⟨π.idxOf s, by omega, ?_, rfl⟩
    rw [List.getElem?_eq_getElem hlt, List.getElem_idxOf]
  have hidx : ∀ r s, π[r]? = some s → π.idxOf s = r := fun r s e => by
    obtain ⟨hl, rfl⟩ := List.getElem?_eq_some_iff.mp e
    exact hnd.idxOf_getElem r hl
  refine ⟨fun s => φ (π.idxOf s), by show φ (π.idxOf 0) = 0; rw [hidx 0 0 hi.zero]; exact h0, fun s hs => ?_⟩
  obtain ⟨r, hr, e1, e2⟩ := hinv s hs
  obtain ⟨h3, h4⟩ := h r hr
  refine ⟨by show φ (π.idxOf s) < _; rw [e2]; exact h3, fun a haa => ?_⟩
  obtain ⟨h5, h6⟩ := h4 a haa
  have ec := hi.cell r s a e1 (by rw [ha]; exact haa)
  show (∀ x, (M.cell (φ (π.idxOf s)) a).2 = some x → _) ∧ ∀ g, (M.cell (φ (π.idxOf s)) a).1 = some g → _
  rw [e2, ec]
  refine ⟨fun x hx => h5 x hx, fun g hg => ?_⟩
  obtain ⟨x, hx, ex⟩ := h6 g hg
  have hxl : x < M1.rooms.length := (mach_at h1 hr (show a < M1.asks by rw [ha]; exact haa)).2.2.1 x hx
  refine ⟨π.getD x 0, by show (M1.cell r a).1.map _ = _; rw [hx]; rfl, ?_⟩
  have e3 : π[x]? = some (π.getD x 0) := by rw [List.getD_eq_getElem?_getD, List.getElem?_eq_getElem (by omega)]; rfl
  show φ (π.idxOf (π.getD x 0)) = g
  rw [hidx x _ e3]
  exact ex
def S_named : FS := fun ds μ Φ => ∃ (ns : List Int) (n : Nat) (q : Addr) (i : Nat) (M : Mach), ds = [.ptr q, machD M] ∧ μ[i]? = some (q, penW ns n) ∧ n ≤ 800000 ∧ M.Ok 24 ∧
  ∀ (N : Mach) (π : List Nat) (n' : Nat) μ', N.Ok 24 → N.asks = M.asks → Iso M N π → n' ≤ n + 30 → μ' = μ.set i (q, penW ns n') → Φ (machD N) μ'
def S_other : FS := fun ds μ Φ => ∃ (ns : List Int) (n : Nat) (q : Addr) (i : Nat) (M : Mach), ds = [.ptr q, machD M] ∧ μ[i]? = some (q, penW ns n) ∧ n ≤ 700000 ∧ M.Ok 24 ∧
  ∀ (N : Mach) (n' : Nat) μ', N.Ok 24 → N.asks = M.asks → Cov M N → n' ≤ n + 600 → μ' = μ.set i (q, penW ns n') → Φ (machD N) μ'
theorem ord_perm {l : List Nat} {n : Nat} (h0 : 0 < n) (h : l.Perm (List.range (n - 1))) : (0 :: l.map (1 + ·)).Perm (List.range n) := by
  have e : List.range n = 0 :: (List.range (n - 1)).map (1 + ·) := by
    obtain ⟨k, rfl⟩ : ∃ k, n = k + 1 := ⟨n - 1, by omega⟩
    rw [List.range_succ_eq_map]
    congr 1
    exact List.map_congr_left fun x _ => Nat.add_comm x 1
  rw [e]
  exact List.Perm.cons _ (h.map _)
/-- a room of the other one beside the room it copies -/
def RowCov (M : Mach) (n many k : Nat) (row : List Cell) : Prop := row.length = M.asks ∧ (∀ d ∈ row, cOk n 8 d) ∧ ∀ a c d, a < M.asks → M.cell (k % many) a = c → row[a]? = some d → CovC n many c d
section
variable {P : Program} {w : World} {K : PySem.W.Frag} {mg : Str → Option Value} {base : Heap}
theorem ok_named (B : Src K mg "_law_named" s__law_named ["_law_pen_here", "_law_machine_here"]) (T : Tx mg) (G__law_order : KnG P w K mg base 2 "_law_order" ["_law_pen_here", "_law_many"] S_order) : KnG P w K mg base 3 "_law_named" ["_law_pen_here", "_law_machine_here"] S_named := by
  refine kn_ofG B sc__law_named (fun ds μ Φ h => by obtain ⟨_, _, _, _, _, rfl, _⟩ := h; rfl) fun f cdv A outer s H E grd hr ds μ Φ h => ?_
  obtain ⟨ns, n, q, ip, M, rfl, hpen, hn, hM, k⟩ := h
  have hr0 := hM.r0
  have hr24 := hM.rm
  have ha4 := hM.a4
  refine wSs_rho (ρ' := [_, _, _, _, _, _, _, _, _, _, _]) rfl ?_
  -- _law_order_here = [0] + [1 + _law_k for _law_k in _law_order(_law_pen_here, len(_law_machine_here[1]) - 1)]
  refine w_cons (w_set 2 sc__law_named.nd rfl (.inr rfl) (.inl rfl) ?_)
  refine w_bin ?_
  refine w_lst ?_
  refine wa_cons ?_
  refine w_int ?_
  refine wa_nil ?_
  refine ⟨by simp, ?_⟩
  -- comp [1 + _law_k for _law_k in _law_order(_law_pen_here, len(_law_machine_here[1]) - 1)]
  refine w_fz0 (w_lcM (own := [("_law_k", 3)]) (.one 3) (by decide) rfl sc__law_named.nd (blkOk_by (N := N__law_named) (sc := defScope s__law_named) (by decide +kernel)) (fun _ _ _ _ _ => pg_name (i := 3) sc__law_named.nd rfl (by first | exact .inl rfl | exact .inr rfl)) ?_)
  refine lcW_of ?_
  refine wi_lst ?_
  refine w_callG G__law_order hr ?_
  refine wa_cons ?_
  refine w_name 0 rfl (.inl rfl) rfl ?_
  refine wa_cons ?_
  refine w_bin ?_
  refine w_callB (id := "len") T.b_len ?_
  refine wa_cons ?_
  refine w_ix ?_
  refine w_name 1 rfl (.inl rfl) rfl ?_
  refine w_int ?_
  first | refine ix_tupD 1 rfl rfl ?_ | refine ix_lstD 1 rfl rfl ?_ | refine ix_tupD 1 rfl (by assumption) ?_ | refine ix_lstD 1 rfl (by assumption) ?_ | refine ix_ptrD 0 rfl 1 rfl rfl ?_ | refine ix_ptrD 1 rfl 1 rfl rfl ?_ | refine ix_ptrD 2 rfl 1 rfl rfl ?_
  refine wa_nil ?_
  refine c_lenT ?_
  rw [List.length_map]
  refine w_int ?_
  refine o_sub ?_
  rw [show ((M.rooms.length : Nat) : Int) - 1 = ((M.rooms.length - 1 : Nat) : Int) by omega]
  refine wa_nil ?_
  refine ⟨ns, n, q, ip, M.rooms.length - 1, rfl, by walk_at "pen", by omega, by omega, fun l c μ1 hl hc e => ?_⟩
  subst e
  have hll := hl.length_eq
  rw [List.length_range] at hll
  refine ⟨_, rfl, ?_⟩
  refine lcq_map (l) _ ((fun k => D.int ((1 + k : Nat) : Int))) rfl (by first | omega | (simp only [List.length_map, List.length_range]; omega) | (simp; omega)) ?_ ?_
  · intro p_k ik k hk
    refine ⟨[_, _, _, _, _, _, _, _, _, _, _], rfl, fun _ _ _ _ _ => ?_⟩
    refine w_bin ?_
    refine w_int ?_
    refine w_name 3 rfl (.inl rfl) rfl ?_
    first | refine o_addN (a := 1) ?_ | walk_at "Add"
    exact ⟨rfl, rfl⟩
  intro p_c
  refine ⟨_, _, _, rfl, rfl, ?_⟩
  refine o_addL (by simp only [List.length_map, List.length_cons, List.length_nil]; omega) ?_
  have eo : D.lst ([D.int 0] ++ l.map fun k => D.int ((1 + k : Nat) : Int)) = .lst ((0 :: l.map (1 + ·)).map fun a : Nat => D.int a) := by rw [List.map_cons, List.map_map]; rfl
  rw [eo]
  have hpi := ord_perm hr0 hl
  obtain ⟨π, hπ⟩ : ∃ π, π = 0 :: l.map (1 + ·) := ⟨_, rfl⟩
  rw [← hπ] at hpi
  rw [← hπ]
  have hz : π[0]? = some 0 := by rw [hπ]; rfl
  have hpl := hpi.length_eq
  rw [List.length_range] at hpl
  have hnd : π.Nodup := hpi.nodup_iff.mpr List.nodup_range
  have hin : ∀ s ∈ π, s < M.rooms.length := fun s hs => List.mem_range.mp (hpi.mem_iff.mp hs)
  -- _law_rooms = [() for _law_room in _law_order_here]
  refine w_cons (w_setLc (own := [("_law_room", 5)]) 4 (.one 5) (by decide) rfl sc__law_named.nd rfl rfl (blkOk_by (N := N__law_named) (sc := defScope s__law_named) (by decide +kernel)) (sw_true rfl rfl rfl (by decide +kernel)) (fun _ _ _ _ _ => pg_name (i := 5) sc__law_named.nd rfl (by first | exact .inl rfl | exact .inr rfl)) ?_)
  refine lcW_of ?_
  refine wi_lst ?_
  refine w_name 2 rfl (.inr (.inl rfl)) rfl ?_
  refine ⟨_, rfl, ?_⟩
  refine lcq_map (π) _ ((fun _ => D.tup [])) rfl (by first | omega | (simp only [List.length_map, List.length_range]; omega) | (simp; omega)) ?_ ?_
  · intro p_room iroom room hroom
    refine ⟨[_, _, _, _, _, _, _, _, _, _, _], rfl, fun _ _ _ _ _ => ?_⟩
    refine w_tup ?_
    refine wa_nil ?_
    refine ⟨by simp, ?_⟩
    exact ⟨rfl, rfl⟩
  intro pr
  refine ⟨_, _, _, rfl, rfl, .inr ?_⟩
  have e0 : π.map (fun _ => D.tup []) = (π.map fun _ => ([] : List Cell)).map roomD := by rw [List.map_map]; rfl
  rw [e0]
  -- for _law_room, _law_cells in enumerate(_law_machine_here[1]):
  refine w_cons (w_forV [5, 6, 7] ?_ PassesOwn.never rfl)
  refine wi_enumT T.b_enumerate ?_
  refine w_ix ?_
  refine w_name 1 rfl (.inl rfl) rfl ?_
  refine w_int ?_
  first | refine ix_tupD 1 rfl rfl ?_ | refine ix_lstD 1 rfl rfl ?_ | refine ix_tupD 1 rfl (by assumption) ?_ | refine ix_lstD 1 rfl (by assumption) ?_ | refine ix_ptrD 0 rfl 1 rfl rfl ?_ | refine ix_ptrD 1 rfl 1 rfl rfl ?_ | refine ix_ptrD 2 rfl 1 rfl rfl ?_
  refine ⟨_, rfl, ?_⟩
  refine ⟨_, fun i vs μ' => ∃ (R : List (List Cell)) (w5 w6 w7 : Option D), (R.length = M.rooms.length) ∧ (∀ r s row, r < i → π[r]? = some s → M.rooms[r]? = some row → R[s]? = some (row.map (nameC π))) ∧ vs = [w5, w6, w7] ∧ (pr, .lst (R.map roomD)) :: μ.set ip (q, penW ns c) = μ', (by first | exact nats_len | exact nats2_len | exact enumD_len.trans (List.length_map _) | exact enumD_len | exact List.length_map _ | exact rfl | simp), ⟨_, _, _, _, (by rw [List.length_map]; exact hpl), (fun r s row h => absurd h (Nat.not_lt_zero _)), rfl, rfl⟩, ?_, ?_⟩
  · rintro room x vs μ' hx ⟨R, w5, w6, w7, hRl, hR, rfl, rfl⟩
    refine wG_rho (ρ' := [_, _, _, _, _, _, _, _, _, _, _]) rfl ?_
    obtain ⟨cells, hcells, rfl⟩ := enum_get' hx
    have hcm := List.mem_of_getElem? hcells
    obtain ⟨hcl, hco⟩ := hM.ok _ hcm
    have hrl := lt_of_get hcells
    obtain ⟨s, hs, hsm⟩ := get_of_lt (show room < π.length by omega)
    first | refine wg_tup rfl rfl ?_ | refine wg_lst rfl rfl ?_
    refine wgs_cons ?_
    refine wg_name 5 sc__law_named.nd rfl (.inl rfl) (.inl rfl) ?_
    refine wgs_cons ?_
    refine wg_name 6 sc__law_named.nd rfl (.inl rfl) (.inl rfl) ?_
    refine wgs_nil ?_
    -- _law_there = [None if _law_goes is None else _law_order_here[_law_goes] for _law_goes, _law_answer in _law_cells]
    refine w_cons (w_setLc (own := [("_law_goes", 8), ("_law_answer", 9)]) 7 (.two 8 9) (by decide) rfl sc__law_named.nd rfl rfl (blkOk_by (N := N__law_named) (sc := defScope s__law_named) (by decide +kernel)) (sw_true rfl rfl rfl (by decide +kernel)) (fun _ _ _ _ _ => pg_tup rfl (pgs_cons (pg_name (i := 8) sc__law_named.nd rfl (by first | exact .inl rfl | exact .inr rfl)) (pgs_cons (pg_name (i := 9) sc__law_named.nd rfl (by first | exact .inl rfl | exact .inr rfl)) pgs_nil))) ?_)
    refine lcW_of ?_
    refine wi_tup ?_
    refine w_name 6 rfl (.inl rfl) rfl ?_
    refine ⟨_, rfl, ?_⟩
    refine lcq_map (cells) _ ((fun c => optD (c.1.map fun g => π.getD g 0))) rfl (by first | omega | (simp only [List.length_map, List.length_range]; omega) | (simp; omega)) ?_ ?_
    · intro p_e ie e he
      have hem := List.mem_of_getElem? he
      refine ⟨[_, _, _, _, _, _, _, _, _, _, _], rfl, fun _ _ _ _ _ => ?_⟩
      refine w_mono (Ψ := (fun d μ1 => d = optD (e.1.map fun g => π.getD g 0) ∧ μ1 = (p_e, .lst ((cells.take ie).map fun c => optD (c.1.map fun g => π.getD g 0))) :: (pr, .lst (R.map roomD)) :: μ.set ip (q, penW ns c))) ?_ ?_
      · refine w_ifx ?_
        refine wt_cmp ?_
        refine w_name 8 rfl (.inl rfl) rfl ?_
        refine w_non ?_
        walk_at "Is"
        refine ⟨_, rfl, ?_⟩
        refine ⟨fun hb => ?_, fun hb => ?_⟩
        · refine w_non ?_
          exact ⟨(by cases e4 : e.1 with | none => rfl | some g => rw [e4] at hb; cases hb), rfl⟩
        · refine w_ix ?_
          refine w_name 2 rfl (.inr (.inl rfl)) rfl ?_
          refine w_name 8 rfl (.inl rfl) rfl ?_
          obtain ⟨g, hg⟩ : ∃ g, e.1 = some g := by cases e4 : e.1 with | none => rw [e4] at hb; cases hb | some g => exact ⟨g, rfl⟩
          have hgl : g < π.length := by have := (hco e hem).1 g hg; omega
          rw [hg]
          refine ix_lstD g rfl (map_at (show π[g]? = some (π.getD g 0) by rw [List.getD_eq_getElem?_getD, List.getElem?_eq_getElem hgl]; rfl)) ?_
          exact ⟨rfl, rfl⟩
      rintro d μ1 ⟨rfl, rfl⟩
      exact ⟨rfl, rfl⟩
    intro p_c
    refine ⟨_, _, _, rfl, rfl, .inl ?_⟩
    -- _law_rooms[_law_order_here[_law_room]] = tuple([(_law_goes, _law_cell_here[1]) for _law_goes, _law_cell_here in zip(_law_there, _law_cells)])
    refine w_cons (w_lset ?_)
    refine w_callTy (T := "tuple") T.b_tuple ?_
    refine wa_cons ?_
    -- comp [(_law_goes, _law_cell_here[1]) for _law_goes, _law_cell_here in zip(_law_there, _law_cells)]
    refine w_fz0 (w_lcM (own := [("_law_goes", 8), ("_law_cell_here", 10)]) (.two 8 10) (by decide) rfl sc__law_named.nd (blkOk_by (N := N__law_named) (sc := defScope s__law_named) (by decide +kernel)) (fun _ _ _ _ _ => pg_tup rfl (pgs_cons (pg_name (i := 8) sc__law_named.nd rfl (by first | exact .inl rfl | exact .inr rfl)) (pgs_cons (pg_name (i := 10) sc__law_named.nd rfl (by first | exact .inl rfl | exact .inr rfl)) pgs_nil))) ?_)
    refine lcW_of ?_
    refine wi_zipB false true T.b_zip ?_
    refine w_name 7 rfl (.inl rfl) rfl ?_
    refine w_name 6 rfl (.inl rfl) rfl ?_
    refine ⟨_, _, rfl, rfl, ?_⟩
    rw [zip_same]
    refine lcq_map (cells) _ ((fun c => cellD (nameC π c))) rfl (by first | omega | (simp only [List.length_map, List.length_range]; omega) | (simp; omega)) ?_ ?_
    · intro p_e ie e he
      refine ⟨[_, _, _, _, _, _, _, _, _, _, _], rfl, fun _ _ _ _ _ => ?_⟩
      refine w_tup ?_
      refine wa_cons ?_
      refine w_name 8 rfl (.inl rfl) rfl ?_
      refine wa_cons ?_
      refine w_ix ?_
      refine w_name 10 rfl (.inl rfl) rfl ?_
      refine w_int ?_
      first | refine ix_tupD 1 rfl rfl ?_ | refine ix_lstD 1 rfl rfl ?_ | refine ix_tupD 1 rfl (by assumption) ?_ | refine ix_lstD 1 rfl (by assumption) ?_ | refine ix_ptrD 0 rfl 1 rfl rfl ?_ | refine ix_ptrD 1 rfl 1 rfl rfl ?_ | refine ix_ptrD 2 rfl 1 rfl rfl ?_
      refine wa_nil ?_
      refine ⟨by simp, ?_⟩
      exact ⟨rfl, rfl⟩
    intro p_c
    refine ⟨_, _, _, rfl, rfl, ?_⟩
    refine wa_nil ?_
    walk_at "c_tuple"
    refine w_name 4 rfl (.inl rfl) rfl ?_
    refine w_ix ?_
    refine w_name 2 rfl (.inr (.inl rfl)) rfl ?_
    refine w_name 5 rfl (.inl rfl) rfl ?_
    refine ix_lstD room rfl (map_at hs) ?_
    have er : D.tup (cells.map fun c => cellD (nameC π c)) = roomD (cells.map (nameC π)) := by unfold roomD; rw [List.map_map]; rfl
    rw [er]
    refine ⟨_, 0, _, s, rfl, rfl, rfl, by rw [List.length_map]; have := hin s hsm; omega, ?_⟩
    rw [List.set_cons_zero, ← List.map_set]
    refine w_nil ?_
    have hR' : ∀ (r s' : Nat) (row : List Cell), r < room + 1 → π[r]? = some s' → M.rooms[r]? = some row → (R.set s (cells.map (nameC π)))[s']? = some (row.map (nameC π)) := fun r s' row hr' hs' hrow' => by
      by_cases e : r = room
      · subst e
        rw [hs] at hs'
        cases hs'
        rw [hcells] at hrow'
        cases hrow'
        rw [List.getElem?_set_self (by have := hin s hsm; omega)]
      · rw [List.getElem?_set_ne (fun z => by
          subst z
          have h1 := hnd.idxOf_getElem r (lt_of_get hs')
          have h2 := hnd.idxOf_getElem room (lt_of_get hs)
          rw [(List.getElem?_eq_some_iff.mp hs').2] at h1
          rw [(List.getElem?_eq_some_iff.mp hs).2] at h2
          omega)]
        exact hR r s' row (by omega) hs' hrow'
    exact ⟨[_, _, _], rfl, ⟨R.set s (cells.map (nameC π)), _, _, _, (by rw [List.length_set]; exact hRl), hR', rfl, rfl⟩⟩
  rintro vs μ' ⟨R, w5, w6, w7, hRl, hR, rfl, rfl⟩
  refine wSs_rho (ρ' := [_, _, _, _, _, _, _, _, _, _, _]) rfl ?_
  -- return (_law_machine_here[0], tuple(_law_rooms))
  refine w_cons (w_ret (w_dr ?_))
  refine w_tup ?_
  refine wa_cons ?_
  refine w_ix ?_
  refine w_name 1 rfl (.inl rfl) rfl ?_
  refine w_int ?_
  first | refine ix_tupD 0 rfl rfl ?_ | refine ix_lstD 0 rfl rfl ?_ | refine ix_tupD 0 rfl (by assumption) ?_ | refine ix_lstD 0 rfl (by assumption) ?_ | refine ix_ptrD 0 rfl 0 rfl rfl ?_ | refine ix_ptrD 1 rfl 0 rfl rfl ?_ | refine ix_ptrD 2 rfl 0 rfl rfl ?_
  refine wa_cons ?_
  refine w_callTy (T := "tuple") T.b_tuple ?_
  refine wa_cons ?_
  refine w_name 4 rfl (.inl rfl) rfl ?_
  refine wa_nil ?_
  walk_at "c_tuple"
  refine wa_nil ?_
  refine ⟨by simp, ?_⟩
  have hcov : ∀ s, s < M.rooms.length → ∃ (r : Nat) (row : List Cell), π[r]? = some s ∧ M.rooms[r]? = some row ∧ R[s]? = some (row.map (nameC π)) := fun s hs => by
    obtain ⟨r, hr, e⟩ := List.mem_iff_getElem.mp (hpi.mem_iff.mpr (List.mem_range.mpr hs))
    have h1 : π[r]? = some s := by rw [List.getElem?_eq_getElem hr, e]
    have h2 : M.rooms[r]? = some (M.rooms[r]'(by omega)) := List.getElem?_eq_getElem _
    exact ⟨r, _, h1, h2, hR r s _ (by omega) h1 h2⟩
  have hNok : (Mach.mk M.asks R).Ok 24 := ⟨hM.a0, hM.a4, by show 0 < R.length; omega, by show R.length ≤ 24; omega, fun row hrow => by
    obtain ⟨s, hs, es⟩ := List.mem_iff_getElem.mp hrow
    obtain ⟨r, row', h1, h2, h3⟩ := hcov s (by have : s < R.length := hs; omega)
    rw [List.getElem?_eq_getElem hs, es] at h3
    cases h3
    obtain ⟨h4, h5⟩ := hM.ok row' (List.mem_of_getElem? h2)
    refine ⟨by rw [List.length_map]; exact h4, fun c hc => ?_⟩
    obtain ⟨c', hc', rfl⟩ := List.mem_map.mp hc
    refine ⟨fun g e => ?_, fun x e => (h5 c' hc').2 x e⟩
    show g < R.length
    have e : c'.1.map (fun g => π.getD g 0) = some g := e
    obtain ⟨y, hy, rfl⟩ := Option.map_eq_some_iff.mp e
    have hyl := (h5 c' hc').1 y hy
    rw [hRl, List.getD_eq_getElem?_getD, List.getElem?_eq_getElem (by omega)]
    exact hin _ (List.getElem_mem _)⟩
  exact ⟨_, List.sublist_cons_self _ _, k ⟨M.asks, R⟩ π c _ hNok rfl ⟨hpi, hz, hRl, fun r s a hs haa => by
    have hrl : r < M.rooms.length := by have := lt_of_get hs; omega
    obtain ⟨row, ce, h1, h2, h3⟩ := cell_of hM hrl haa
    rw [h3]
    exact cell_eq (M := ⟨M.asks, R⟩) (hR r s row hrl hs h1) (by rw [List.getElem?_map, h2]; rfl)⟩ (by omega) rfl⟩
theorem ok_other (B : Src K mg "_law_other" s__law_other ["_law_pen_here", "_law_machine_here"]) (T : Tx mg) (G__law_take : KnG P w K mg base 1 "_law_take" ["_law_pen_here", "_law_many"] S_take) (G__law_named : KnG P w K mg base 3 "_law_named" ["_law_pen_here", "_law_machine_here"] S_named) : KnG P w K mg base 4 "_law_other" ["_law_pen_here", "_law_machine_here"] S_other := by
  refine kn_ofG B sc__law_other (fun ds μ Φ h => by obtain ⟨_, _, _, _, _, rfl, _⟩ := h; rfl) fun f cdv A outer s H E grd hr ds μ Φ h => ?_
  obtain ⟨ns, n, q, ip, M, rfl, hpen, hn, hM, k⟩ := h
  have hr0 := hM.r0
  have hr24 := hM.rm
  have ha4 := hM.a4
  refine wSs_rho (ρ' := [_, _, _, _, _, _, _, _, _, _]) rfl ?_
  -- _law_copies = 1 + int(_law_take(_law_pen_here, 2) == 1 and len(_law_machine_here[1]) < 13)
  refine w_cons (w_set 2 sc__law_other.nd rfl (.inl rfl) (.inl rfl) ?_)
  refine w_bin ?_
  refine w_int ?_
  refine w_callTy (T := "int") T.b_int ?_
  refine wa_cons ?_
  refine w_mono (Ψ := (fun d μ1 => ∃ kb : Bool, d = .bl kb ∧ (kb = true → M.rooms.length < 13) ∧ μ1 = μ.set ip (q, penW ns (n + 1)))) ?_ ?_
  · refine w_andV ?_
    refine w_cmp ?_
    refine w_callG G__law_take hr ?_
    refine wa_cons ?_
    refine w_name 0 rfl (.inl rfl) rfl ?_
    refine wa_cons ?_
    refine w_int ?_
    refine wa_nil ?_
    refine ⟨_, _, _, _, _, rfl, by walk_at "pen", by omega, by omega, fun r1 μ1 hr1 e1 => ?_⟩
    try simp only [List.set_cons_succ, List.set_set, List.set_cons_zero] at e1
    subst e1
    refine w_int ?_
    walk_at "Eq"
    refine ⟨_, rfl, fun hb0 => ?_, fun hb0 => ?_⟩
    rotate_left
    · exact ⟨_, rfl, fun z => (nomatch z), rfl⟩
    refine w_andV1 ?_
    refine w_cmp ?_
    refine w_callB (id := "len") T.b_len ?_
    refine wa_cons ?_
    refine w_ix ?_
    refine w_name 1 rfl (.inl rfl) rfl ?_
    refine w_int ?_
    first | refine ix_tupD 1 rfl rfl ?_ | refine ix_lstD 1 rfl rfl ?_ | refine ix_tupD 1 rfl (by assumption) ?_ | refine ix_lstD 1 rfl (by assumption) ?_ | refine ix_ptrD 0 rfl 1 rfl rfl ?_ | refine ix_ptrD 1 rfl 1 rfl rfl ?_ | refine ix_ptrD 2 rfl 1 rfl rfl ?_
    refine wa_nil ?_
    refine c_lenT ?_
    rw [List.length_map]
    refine w_int ?_
    walk_at "Lt"
    exact ⟨_, rfl, fun z => by have := of_decide_eq_true z; omega, rfl⟩
  rintro d μ1 ⟨kb, rfl, hkb, rfl⟩
  refine wa_nil ?_
  walk_at "c_int"
  refine o_add ?_
  obtain ⟨cp, ecp, hcp⟩ : ∃ cp : Nat, (1 : Int) + (if kb = true then 1 else 0) = cp ∧ ((cp = 1 ∨ cp = 2) ∧ (cp = 2 → M.rooms.length < 13)) := by
    cases kb with
    | false => exact ⟨1, rfl, .inl rfl, fun z => absurd z (by decide)⟩
    | true => exact ⟨2, rfl, .inr rfl, fun _ => hkb rfl⟩
  rw [ecp]
  have hnm : M.rooms.length * cp ≤ 24 ∧ M.rooms.length ≤ M.rooms.length * cp := by
    rcases hcp.1 with rfl | rfl
    · omega
    · have := hcp.2 rfl; omega
  -- _law_fill = (0, 3, 6, 8)[_law_take(_law_pen_here, 4)]
  refine w_cons (w_set 3 sc__law_other.nd rfl (.inl rfl) (.inl rfl) ?_)
  refine w_ix ?_
  refine w_tup ?_
  refine wa_cons ?_
  refine w_int ?_
  refine wa_cons ?_
  refine w_int ?_
  refine wa_cons ?_
  refine w_int ?_
  refine wa_cons ?_
  refine w_int ?_
  refine wa_nil ?_
  refine ⟨by simp, ?_⟩
  refine w_callG G__law_take hr ?_
  refine wa_cons ?_
  refine w_name 0 rfl (.inl rfl) rfl ?_
  refine wa_cons ?_
  refine w_int ?_
  refine wa_nil ?_
  refine ⟨_, _, _, _, _, rfl, by walk_at "pen", by omega, by omega, fun r2 μ2 hr2 e2 => ?_⟩
  try simp only [List.set_cons_succ, List.set_set, List.set_cons_zero] at e2
  subst e2
  first | refine ix_litNT [0, 3, 6, 8] (by show (_ : Nat) < 4; omega) fun x1 hx1 => ?_ | refine ix_litT [0, 3, 6, 8] (by omega) (by show (_ : Int) < 4; omega) fun x1 hx1 => ?_
  have hb1 : 0 ≤ x1 ∧ x1 ≤ 8 := by simp at hx1; omega
  -- _law_many = len(_law_machine_here[1])
  refine w_cons (w_set 4 sc__law_other.nd rfl (.inl rfl) (.inl rfl) ?_)
  refine w_callB (id := "len") T.b_len ?_
  refine wa_cons ?_
  refine w_ix ?_
  refine w_name 1 rfl (.inl rfl) rfl ?_
  refine w_int ?_
  first | refine ix_tupD 1 rfl rfl ?_ | refine ix_lstD 1 rfl rfl ?_ | refine ix_tupD 1 rfl (by assumption) ?_ | refine ix_lstD 1 rfl (by assumption) ?_ | refine ix_ptrD 0 rfl 1 rfl rfl ?_ | refine ix_ptrD 1 rfl 1 rfl rfl ?_ | refine ix_ptrD 2 rfl 1 rfl rfl ?_
  refine wa_nil ?_
  refine c_lenT ?_
  rw [List.length_map]
  -- _law_rooms = []
  refine w_cons (w_set 5 sc__law_other.nd rfl (.inl rfl) (.inl rfl) ?_)
  refine w_lstM ?_
  refine wa_nil ?_
  refine ⟨by simp, fun pr => ?_⟩
  -- for _law_k in range(_law_many * _law_copies):
  refine w_cons (w_forV [6, 7, 8, 9] ?_ PassesOwn.never rfl)
  refine wi_rngN T.b_range ?_
  refine w_bin ?_
  refine w_name 4 rfl (.inl rfl) rfl ?_
  refine w_name 2 rfl (.inl rfl) rfl ?_
  refine o_mulN (by omega) ?_
  refine ⟨_, by rfl, by omega, ?_⟩
  refine ⟨_, fun i vs μ' => ∃ (R : List (List Cell)) (c : Nat) (w6 w7 w8 w9 : Option D), (R.length = i) ∧ (∀ k row, R[k]? = some row → RowCov M (M.rooms.length * cp) M.rooms.length k row) ∧ (c ≤ n + 2 + 20 * i) ∧ vs = [w6, w7, w8, w9] ∧ (pr, .lst (R.map roomD)) :: μ.set ip (q, penW ns c) = μ', (by first | exact nats_len | exact nats2_len | exact enumD_len.trans (List.length_map _) | exact enumD_len | exact List.length_map _ | exact rfl | simp), ⟨[], n + 1 + 1, _, _, _, _, rfl, (fun k row h => (by cases h)), (by omega), rfl, rfl⟩, ?_, ?_⟩
  · rintro k x vs μ' hx ⟨R, c, w6, w7, w8, w9, hRl, hR, hc, rfl, rfl⟩
    refine wG_rho (ρ' := [_, _, _, _, _, _, _, _, _, _]) rfl ?_
    obtain ⟨hk, rfl⟩ := nats_get hx
    have hkm : k % M.rooms.length < M.rooms.length := Nat.mod_lt _ hr0
    obtain ⟨src, hsrc, hsrcm⟩ := get_of_lt hkm
    obtain ⟨hsl, hso⟩ := hM.ok _ hsrcm
    refine wg_name 6 sc__law_other.nd rfl (.inl rfl) (.inl rfl) ?_
    -- _law_cells = []
    refine w_cons (w_set 7 sc__law_other.nd rfl (.inl rfl) (.inl rfl) ?_)
    refine w_lstM ?_
    refine wa_nil ?_
    refine ⟨by simp, fun pc => ?_⟩
    -- for _law_goes, _law_answer in _law_machine_here[1][_law_k % _law_many]:
    refine w_cons (w_forV [8, 9] ?_ PassesOwn.never rfl)
    refine wi_tup ?_
    refine w_ix ?_
    refine w_ix ?_
    refine w_name 1 rfl (.inl rfl) rfl ?_
    refine w_int ?_
    first | refine ix_tupD 1 rfl rfl ?_ | refine ix_lstD 1 rfl rfl ?_ | refine ix_tupD 1 rfl (by assumption) ?_ | refine ix_lstD 1 rfl (by assumption) ?_ | refine ix_ptrD 0 rfl 1 rfl rfl ?_ | refine ix_ptrD 1 rfl 1 rfl rfl ?_ | refine ix_ptrD 2 rfl 1 rfl rfl ?_
    refine w_bin ?_
    refine w_name 6 rfl (.inl rfl) rfl ?_
    refine w_name 4 rfl (.inl rfl) rfl ?_
    refine o_modN hr0 ?_
    refine ix_tupD _ rfl (map_at hsrc) ?_
    refine ⟨_, rfl, ?_⟩
    have hC0 : ∀ (a : Nat) (e d : Cell), src[a]? = some e → ([] : List Cell)[a]? = some d → CovC (M.rooms.length * cp) M.rooms.length e d := fun a e d _ h => by cases h
    refine ⟨_, fun i vs μ' => ∃ (C : List Cell) (c2 : Nat) (w8 w9 : Option D), (C.length = i) ∧ (∀ a e d, src[a]? = some e → C[a]? = some d → CovC (M.rooms.length * cp) M.rooms.length e d) ∧ (∀ d ∈ C, cOk (M.rooms.length * cp) 8 d) ∧ (c2 ≤ c + 4 * i) ∧ vs = [w8, w9] ∧ (pc, .lst (C.map cellD)) :: (pr, .lst (R.map roomD)) :: μ.set ip (q, penW ns c2) = μ', (by first | exact nats_len | exact nats2_len | exact enumD_len.trans (List.length_map _) | exact enumD_len | exact List.length_map _ | exact rfl | simp), ⟨[], c, _, _, rfl, hC0, (fun d h => (nomatch h)), (by omega), rfl, rfl⟩, ?_, ?_⟩
    · rintro ie x vs μ' hx ⟨C, c2, w8, w9, hCl, hC, hCo, hc2, rfl, rfl⟩
      refine wG_rho (ρ' := [_, _, _, _, _, _, _, _, _, _]) rfl ?_
      obtain ⟨e, he, rfl⟩ := map_get' hx
      have hem := List.mem_of_getElem? he
      have heo := hso e hem
      have hie := lt_of_get he
      first | refine wg_tup rfl rfl ?_ | refine wg_lst rfl rfl ?_
      refine wgs_cons ?_
      refine wg_name 8 sc__law_other.nd rfl (.inl rfl) (.inl rfl) ?_
      refine wgs_cons ?_
      refine wg_name 9 sc__law_other.nd rfl (.inl rfl) (.inl rfl) ?_
      refine wgs_nil ?_
      -- if _law_goes is not None:
      refine w_cutV [8] (fun vs μ' => ∃ (g' : Option Nat) (c3 : Nat), (∀ g, e.1 = some g → ∃ x, g' = some x ∧ x % M.rooms.length = g) ∧ (∀ x, g' = some x → x < M.rooms.length * cp) ∧ (c3 ≤ c2 + 2) ∧ vs = [some (optD g')] ∧ (pc, .lst (C.map cellD)) :: (pr, .lst (R.map roomD)) :: μ.set ip (q, penW ns c3) = μ') (w_if ?_) ?_
      · refine wt_cmp ?_
        refine w_name 8 rfl (.inl rfl) rfl ?_
        refine w_non ?_
        walk_at "IsNot"
        refine ⟨_, rfl, ?_⟩
        refine ⟨fun hb => ?_, fun hb => ?_⟩
        · -- _law_goes = _law_goes + _law_many * _law_take(_law_pen_here, _law_copies)
          refine w_cons (w_set 8 sc__law_other.nd rfl (.inl rfl) (.inl rfl) ?_)
          refine w_bin ?_
          refine w_name 8 rfl (.inl rfl) rfl ?_
          refine w_bin ?_
          refine w_name 4 rfl (.inl rfl) rfl ?_
          refine w_callG G__law_take hr ?_
          refine wa_cons ?_
          refine w_name 0 rfl (.inl rfl) rfl ?_
          refine wa_cons ?_
          refine w_name 2 rfl (.inl rfl) rfl ?_
          refine wa_nil ?_
          obtain ⟨g, hg⟩ := notN_some hb
          have hgl := heo.1 g hg
          rw [hg]
          refine ⟨_, _, _, _, _, rfl, by walk_at "pen", by omega, by omega, fun r3 μ3 hr3 e3 => ?_⟩
          simp only [List.set_cons_succ, List.set_set] at e3
          subst e3
          refine o_mulN (by omega) ?_
          refine o_addN ?_
          refine w_nil ?_
          have hr3' : M.rooms.length * r3 + M.rooms.length ≤ M.rooms.length * cp := by rw [← Nat.mul_succ]; exact Nat.mul_le_mul_left _ (by omega)
          exact ⟨[_], rfl, ⟨some (g + M.rooms.length * r3), c2 + 1, (fun g0 e0 => by cases e0; exact ⟨_, rfl, by rw [Nat.add_mul_mod_self_left]; exact Nat.mod_eq_of_lt hgl⟩), (fun x e0 => by cases e0; omega), (by omega), rfl, rfl⟩⟩
        · -- if _law_take(_law_pen_here, 8) < _law_fill:
          refine w_cons (w_if ?_)
          refine wt_cmp ?_
          refine w_callG G__law_take hr ?_
          refine wa_cons ?_
          refine w_name 0 rfl (.inl rfl) rfl ?_
          refine wa_cons ?_
          refine w_int ?_
          refine wa_nil ?_
          refine ⟨_, _, _, _, _, rfl, by walk_at "pen", by omega, by omega, fun r3 μ3 hr3 e3 => ?_⟩
          try simp only [List.set_cons_succ, List.set_set, List.set_cons_zero] at e3
          subst e3
          refine w_name 3 rfl (.inl rfl) rfl ?_
          walk_at "Lt"
          refine ⟨_, rfl, ?_⟩
          refine ⟨fun hb => ?_, fun hb => ?_⟩
          · -- _law_goes = _law_take(_law_pen_here, _law_many * _law_copies)
            refine w_cons (w_set 8 sc__law_other.nd rfl (.inl rfl) (.inl rfl) ?_)
            refine w_callG G__law_take hr ?_
            refine wa_cons ?_
            refine w_name 0 rfl (.inl rfl) rfl ?_
            refine wa_cons ?_
            refine w_bin ?_
            refine w_name 4 rfl (.inl rfl) rfl ?_
            refine w_name 2 rfl (.inl rfl) rfl ?_
            refine o_mulN (by omega) ?_
            refine wa_nil ?_
            refine ⟨_, _, _, _, _, rfl, by walk_at "pen", by omega, by omega, fun r5 μ5 hr5 e5 => ?_⟩
            simp only [List.set_cons_succ, List.set_set] at e5
            subst e5
            refine w_nil ?_
            refine w_nil ?_
            have hn0 : e.1 = none := isN_none (by assumption)
            exact ⟨[_], rfl, ⟨some r5, c2 + 1 + 1, (fun g0 e0 => by rw [hn0] at e0; cases e0), (fun x e0 => by cases e0; omega), (by omega), rfl, rfl⟩⟩
          · refine w_nil ?_
            refine w_nil ?_
            have hn0 : e.1 = none := isN_none (by assumption)
            exact ⟨[_], rfl, ⟨e.1, c2 + 1, (fun g0 e0 => by rw [hn0] at e0; cases e0), (fun x e0 => by rw [hn0] at e0; cases e0), (by omega), rfl, rfl⟩⟩
      rintro vs μ' ⟨g', c3, hg1, hg2, hc3, rfl, rfl⟩
      refine wSs_rho (ρ' := [_, _, _, _, _, _, _, _, _, _]) rfl ?_
      -- if _law_answer is None and _law_take(_law_pen_here, 8) < _law_fill:
      refine w_cutV [9] (fun vs μ' => ∃ (s' : Option Nat) (c4 : Nat), (∀ x, e.2 = some x → s' = some x) ∧ (∀ x, s' = some x → x < 8) ∧ (c4 ≤ c3 + 2) ∧ vs = [some (optD s')] ∧ (pc, .lst (C.map cellD)) :: (pr, .lst (R.map roomD)) :: μ.set ip (q, penW ns c4) = μ') (w_if ?_) ?_
      · refine wt_mono (Ψ := (fun b μ1 => ∃ c5, c5 ≤ c3 + 1 ∧ (b = true → e.2 = none) ∧ μ1 = (pc, .lst (C.map cellD)) :: (pr, .lst (R.map roomD)) :: μ.set ip (q, penW ns c5))) ?_ ?_
        · refine wt_w ?_
          refine ww_and ?_
          refine wt_cmp ?_
          refine w_name 9 rfl (.inl rfl) rfl ?_
          refine w_non ?_
          walk_at "Is"
          refine ⟨_, rfl, ?_⟩
          refine ⟨fun hb0 => ?_, fun hb0 => ?_⟩
          rotate_left
          · exact ⟨c3, by omega, fun z => (nomatch z), rfl⟩
          refine ww_and1 ?_
          refine wt_cmp ?_
          refine w_callG G__law_take hr ?_
          refine wa_cons ?_
          refine w_name 0 rfl (.inl rfl) rfl ?_
          refine wa_cons ?_
          refine w_int ?_
          refine wa_nil ?_
          refine ⟨_, _, _, _, _, rfl, by walk_at "pen", by omega, by omega, fun r4 μ4 hr4 e4 => ?_⟩
          try simp only [List.set_cons_succ, List.set_set, List.set_cons_zero] at e4
          subst e4
          refine w_name 3 rfl (.inl rfl) rfl ?_
          walk_at "Lt"
          refine ⟨_, rfl, ?_⟩
          exact ⟨c3 + 1, by omega, fun _ => (by cases e4 : e.2 with | none => rfl | some x => rw [e4] at hb0; cases hb0), rfl⟩
        rintro b μ1 ⟨c5, hc5, hb5, rfl⟩
        refine ⟨fun hb => ?_, fun hb => ?_⟩
        · -- _law_answer = _law_take(_law_pen_here, 8)
          refine w_cons (w_set 9 sc__law_other.nd rfl (.inl rfl) (.inl rfl) ?_)
          refine w_callG G__law_take hr ?_
          refine wa_cons ?_
          refine w_name 0 rfl (.inl rfl) rfl ?_
          refine wa_cons ?_
          refine w_int ?_
          refine wa_nil ?_
          refine ⟨_, _, _, _, _, rfl, by walk_at "pen", by omega, by omega, fun r5 μ5 hr5 e5 => ?_⟩
          try simp only [List.set_cons_succ, List.set_set, List.set_cons_zero] at e5
          subst e5
          refine w_nil ?_
          exact ⟨[_], rfl, ⟨some r5, c5 + 1, (fun x e0 => by rw [hb5 hb] at e0; cases e0), (fun x e0 => by cases e0; omega), (by omega), rfl, rfl⟩⟩
        · refine w_nil ?_
          exact ⟨[_], rfl, ⟨e.2, c5, (fun x e0 => e0), (fun x e0 => heo.2 x e0), (by omega), rfl, rfl⟩⟩
      rintro vs μ' ⟨s', c4, hs1, hs2, hc4, rfl, rfl⟩
      refine wSs_rho (ρ' := [_, _, _, _, _, _, _, _, _, _]) rfl ?_
      -- _law_cells.append((_law_goes, _law_answer))
      refine w_cons (w_expr ?_)
      refine w_append ?_
      refine w_name 7 rfl (.inl rfl) rfl ?_
      first | refine ⟨.inl ⟨rfl, 0, _, rfl⟩, ?_⟩ | refine ⟨.inl ⟨rfl, 1, _, rfl⟩, ?_⟩ | refine ⟨.inl ⟨rfl, 2, _, rfl⟩, ?_⟩ | refine ⟨.inl ⟨rfl, 3, _, rfl⟩, ?_⟩ | refine ⟨rfl, ?_⟩
      refine wa_cons ?_
      refine w_tup ?_
      refine wa_cons ?_
      refine w_name 8 rfl (.inl rfl) rfl ?_
      refine wa_cons ?_
      refine w_name 9 rfl (.inl rfl) rfl ?_
      refine wa_nil ?_
      refine ⟨by simp, ?_⟩
      refine wa_nil ?_
      refine m_append 0 rfl (by rw [List.length_map]; omega) ?_
      refine w_nil ?_
      have hnew : CovC (M.rooms.length * cp) M.rooms.length e (g', s') := ⟨hs1, hg1, hg2, hs2⟩
      have hC' : ∀ (a : Nat) (e' d : Cell), src[a]? = some e' → (C ++ [(g', s')])[a]? = some d → CovC (M.rooms.length * cp) M.rooms.length e' d := fun a e' d h1 h2 => by
        by_cases hlt : a < C.length
        · rw [List.getElem?_append_left hlt] at h2
          exact hC a e' d h1 h2
        · rw [List.getElem?_append_right (by omega)] at h2
          have h3 : a - C.length = 0 := by
            have := (List.getElem?_eq_some_iff.mp h2).1
            simpa using this
          rw [h3] at h2
          cases h2
          rw [show a = ie by omega, he] at h1
          cases h1
          exact hnew
      have hCo' : ∀ d ∈ C ++ [(g', s')], cOk (M.rooms.length * cp) 8 d := fun d hd => by
        rcases List.mem_append.mp hd with hd | hd
        · exact hCo d hd
        · rw [List.mem_singleton] at hd
          subst hd
          exact ⟨hg2, hs2⟩
      exact ⟨[_, _], rfl, ⟨C ++ [(g', s')], c4, _, _, (by rw [List.length_append, hCl]; rfl), hC', hCo', (by omega), rfl, (by rw [List.map_append]; rfl)⟩⟩
    rintro vs μ' ⟨C, c2, w8, w9, hCl, hC, hCo, hc2, rfl, rfl⟩
    refine wSs_rho (ρ' := [_, _, _, _, _, _, _, _, _, _]) rfl ?_
    refine wSs_fz (i := 0) (j := 7) rfl rfl ?_
    -- _law_rooms.append(tuple(_law_cells))
    refine w_cons (w_expr ?_)
    refine w_append ?_
    refine w_name 5 rfl (.inl rfl) rfl ?_
    first | refine ⟨.inl ⟨rfl, 0, _, rfl⟩, ?_⟩ | refine ⟨.inl ⟨rfl, 1, _, rfl⟩, ?_⟩ | refine ⟨.inl ⟨rfl, 2, _, rfl⟩, ?_⟩ | refine ⟨.inl ⟨rfl, 3, _, rfl⟩, ?_⟩ | refine ⟨rfl, ?_⟩
    refine wa_cons ?_
    refine w_callTy (T := "tuple") T.b_tuple ?_
    refine wa_cons ?_
    refine w_name 7 rfl (.inl rfl) rfl ?_
    refine wa_nil ?_
    walk_at "c_tuple"
    refine wa_nil ?_
    refine m_append 0 rfl (by rw [List.length_map]; omega) ?_
    refine w_nil ?_
    have hR' : ∀ (k' : Nat) (row : List Cell), (R ++ [C])[k']? = some row → RowCov M (M.rooms.length * cp) M.rooms.length k' row := fun k' row h => by
      by_cases hlt : k' < R.length
      · rw [List.getElem?_append_left hlt] at h
        exact hR k' row h
      · rw [List.getElem?_append_right (by omega)] at h
        have h3 : k' - R.length = 0 := by
          have := (List.getElem?_eq_some_iff.mp h).1
          simpa using this
        rw [h3] at h
        cases h
        rw [show k' = k by omega]
        exact ⟨by omega, hCo, fun a e' d haa h1 h2 => by
          obtain ⟨row, ce, z1, z2, z3⟩ := cell_of hM hkm haa
          rw [hsrc] at z1
          cases z1
          exact hC a e' d (by rw [z2, ← z3, h1]) h2⟩
    exact ⟨[_, _, _, _], rfl, ⟨R ++ [C], c2, _, _, _, _, (by rw [List.length_append, hRl]; rfl), hR', (by omega), rfl, (by rw [List.map_append]; rfl)⟩⟩
  rintro vs μ' ⟨R, c, w6, w7, w8, w9, hRl, hR, hc, rfl, rfl⟩
  refine wSs_rho (ρ' := [_, _, _, _, _, _, _, _, _, _]) rfl ?_
  refine wSs_fz (i := 0) (j := 5) rfl rfl ?_
  -- return _law_named(_law_pen_here, (_law_machine_here[0], tuple(_law_rooms)))
  refine w_cons (w_ret ?_)
  refine w_callG G__law_named hr ?_
  refine wa_cons ?_
  refine w_name 0 rfl (.inl rfl) rfl ?_
  refine wa_cons ?_
  refine w_tup ?_
  refine wa_cons ?_
  refine w_ix ?_
  refine w_name 1 rfl (.inl rfl) rfl ?_
  refine w_int ?_
  first | refine ix_tupD 0 rfl rfl ?_ | refine ix_lstD 0 rfl rfl ?_ | refine ix_tupD 0 rfl (by assumption) ?_ | refine ix_lstD 0 rfl (by assumption) ?_ | refine ix_ptrD 0 rfl 0 rfl rfl ?_ | refine ix_ptrD 1 rfl 0 rfl rfl ?_ | refine ix_ptrD 2 rfl 0 rfl rfl ?_
  refine wa_cons ?_
  refine w_callTy (T := "tuple") T.b_tuple ?_
  refine wa_cons ?_
  refine w_name 5 rfl (.inl rfl) rfl ?_
  refine wa_nil ?_
  walk_at "c_tuple"
  refine wa_nil ?_
  refine ⟨by simp, ?_⟩
  refine wa_nil ?_
  have hM1 : (Mach.mk M.asks R).Ok 24 := ⟨hM.a0, hM.a4, by show 0 < R.length; omega, by show R.length ≤ 24; omega, fun row hrow => by
    obtain ⟨s, hs, es⟩ := List.mem_iff_getElem.mp hrow
    obtain ⟨h1, h2, _⟩ := hR s row (by rw [List.getElem?_eq_getElem hs, es])
    exact ⟨h1, fun d hd => by show cOk R.length 8 d; rw [hRl]; exact h2 d hd⟩⟩
  refine ⟨ns, c, q, ip, ⟨M.asks, R⟩, rfl, by walk_at "pen", by omega, hM1, fun N π c6 μ6 hN hNa hi hc6 e6 => ?_⟩
  have e6 : μ6 = μ.set ip (q, penW ns c6) := by
    rw [e6]
    show (List.set μ ip (q, penW ns c)).set ip _ = _
    rw [List.set_set]
  refine k N c6 _ hN hNa (cov_iso hM1 rfl ⟨fun s => s % M.rooms.length, Nat.zero_mod _, fun s hs => ⟨Nat.mod_lt _ hr0, fun a haa => ?_⟩⟩ hi) (by omega) e6
  obtain ⟨row, ce, z1, z2, z3⟩ := cell_of hM1 hs haa
  have hcv := (hR s row z1).2.2 a _ ce haa rfl z2
  rw [z3]
  exact ⟨hcv.1, fun g hg => hcv.2.1 g hg⟩
end
/-! ### one cell otherwise -/
def setC (M : Mach) (r a : Nat) (c : Cell) : Mach := ⟨M.asks, M.rooms.set r ((M.rooms.getD r []).set a c)⟩
theorem cut_set {α : Type} {l : List α} {i : Nat} (x : α) (h : i < l.length) : l.take i ++ [x] ++ l.drop (i + 1) = l.set i x := by
  rw [List.set_eq_take_append_cons_drop, if_pos h, List.append_assoc]
  rfl
theorem roomD_len {M : Mach} {most r : Nat} (hM : M.Ok most) (hr : r < M.rooms.length) : (M.rooms.getD r []).length = M.asks ∧ ∀ c ∈ M.rooms.getD r [], cOk M.rooms.length 8 c := by
  rw [List.getD_eq_getElem?_getD, List.getElem?_eq_getElem hr]
  exact hM.ok _ (List.getElem_mem hr)
theorem setC_D {M : Mach} {most r a : Nat} {c : Cell} (hM : M.Ok most) (hr : r < M.rooms.length) (ha : a < M.asks) :
    D.tup [.int M.asks, .tup ((M.rooms.take r).map roomD ++ [D.tup (((M.rooms.getD r []).take a).map cellD ++ [cellD c] ++ ((M.rooms.getD r []).drop (a + 1)).map cellD)] ++ (M.rooms.drop (r + 1)).map roomD)] = machD (setC M r a c) := by
  have e1 : D.tup (((M.rooms.getD r []).take a).map cellD ++ [cellD c] ++ ((M.rooms.getD r []).drop (a + 1)).map cellD) = roomD ((M.rooms.getD r []).set a c) := by
    rw [← cut_set c (by rw [(roomD_len hM hr).1]; exact ha)]
    unfold roomD
    rw [List.map_append, List.map_append]
    rfl
  rw [e1]
  unfold machD setC
  show _ = D.tup [.int M.asks, .tup ((M.rooms.set r ((M.rooms.getD r []).set a c)).map roomD)]
  rw [← cut_set ((M.rooms.getD r []).set a c) hr, List.map_append, List.map_append]
  rfl
theorem setC_len (M : Mach) (r a : Nat) (c : Cell) : (setC M r a c).rooms.length = M.rooms.length := List.length_set
theorem setC_ok {M : Mach} {most r a : Nat} {c : Cell} (hM : M.Ok most) (hr : r < M.rooms.length) (hc : cOk M.rooms.length 8 c) : (setC M r a c).Ok most := ⟨hM.a0, hM.a4, by rw [setC_len]; exact hM.r0, by rw [setC_len]; exact hM.rm, fun row hrow => by
  rw [setC_len]
  obtain ⟨h1, h2⟩ := roomD_len hM hr
  rcases List.mem_or_eq_of_mem_set hrow with h | rfl
  · exact hM.ok row h
  · refine ⟨by rw [List.length_set]; exact h1, fun x hx => ?_⟩
    rcases List.mem_or_eq_of_mem_set hx with h | rfl
    · exact h2 x h
    · exact hc⟩
theorem setC_same {M : Mach} {most r a : Nat} {c : Cell} (hM : M.Ok most) (hr : r < M.rooms.length) (ha : a < M.asks) : (setC M r a c).cell r a = c := by
  unfold Mach.cell setC
  have e : (M.rooms.set r ((M.rooms.getD r []).set a c)).getD r [] = (M.rooms.getD r []).set a c := by
    rw [List.getD_eq_getElem?_getD, List.getElem?_set_self hr]
    rfl
  show ((M.rooms.set r ((M.rooms.getD r []).set a c)).getD r []).getD a _ = _
  rw [e, List.getD_eq_getElem?_getD, List.getElem?_set_self (by rw [(roomD_len hM hr).1]; exact ha)]
  rfl
theorem setC_else {M : Mach} {r a r' a' : Nat} {c : Cell} (h : ¬ (r' = r ∧ a' = a)) : (setC M r a c).cell r' a' = M.cell r' a' := by
  unfold Mach.cell setC
  show ((M.rooms.set r ((M.rooms.getD r []).set a c)).getD r' []).getD a' _ = _
  by_cases e : r' = r
  · subst e
    by_cases hr : r' < M.rooms.length
    · rw [List.getD_eq_getElem?_getD (l := M.rooms.set _ _), List.getElem?_set_self hr]
      show ((M.rooms.getD r' []).set a c).getD a' _ = _
      rw [List.getD_eq_getElem?_getD, List.getElem?_set_ne (fun z => h ⟨rfl, z.symm⟩), ← List.getD_eq_getElem?_getD]
    · rw [List.set_eq_of_length_le (by omega)]
  · rw [List.getD_eq_getElem?_getD (l := M.rooms.set _ _), List.getElem?_set_ne (fun z => e z.symm), ← List.getD_eq_getElem?_getD]
def S_spoiled : FS := fun ds μ Φ => ∃ (ns : List Int) (n : Nat) (q : Addr) (i : Nat) (M : Mach), ds = [.ptr q, machD M] ∧ μ[i]? = some (q, penW ns n) ∧ n ≤ 800000 ∧ M.Ok 24 ∧
  ∀ (N : Mach) (n' : Nat) μ', N.Ok 24 → N.asks = M.asks → n' ≤ n + 10 → μ' = μ.set i (q, penW ns n') → Φ (machD N) μ'
section
variable {P : Program} {w : World} {K : PySem.W.Frag} {mg : Str → Option Value} {base : Heap}
theorem ok_spoiled (B : Src K mg "_law_spoiled" s__law_spoiled ["_law_pen_here", "_law_machine_here"]) (T : Tx mg) (G__law_take : KnG P w K mg base 1 "_law_take" ["_law_pen_here", "_law_many"] S_take) : KnG P w K mg base 2 "_law_spoiled" ["_law_pen_here", "_law_machine_here"] S_spoiled := by
  refine kn_ofG B sc__law_spoiled (fun ds μ Φ h => by obtain ⟨_, _, _, _, _, rfl, _⟩ := h; rfl) fun f cdv A outer s H E grd hr ds μ Φ h => ?_
  obtain ⟨ns, n, q, ip, M, rfl, hpen, hn, hM, k⟩ := h
  have hr0 := hM.r0
  have hr24 := hM.rm
  have ha4 := hM.a4
  have ha0 := hM.a0
  refine wSs_rho (ρ' := [_, _, _, _, _, _, _, _, _, _, _]) rfl ?_
  -- _law_way = _law_take(_law_pen_here, 4)
  refine w_cons (w_set 2 sc__law_spoiled.nd rfl (.inl rfl) (.inl rfl) ?_)
  refine w_callG G__law_take hr ?_
  refine wa_cons ?_
  refine w_name 0 rfl (.inl rfl) rfl ?_
  refine wa_cons ?_
  refine w_int ?_
  refine wa_nil ?_
  refine ⟨_, _, _, _, _, rfl, by walk_at "pen", by omega, by omega, fun r1 μ1 hr1 e1 => ?_⟩
  try simp only [List.set_cons_succ, List.set_set, List.set_cons_zero] at e1
  subst e1
  -- _law_many = len(_law_machine_here[1])
  refine w_cons (w_set 3 sc__law_spoiled.nd rfl (.inl rfl) (.inl rfl) ?_)
  refine w_callB (id := "len") T.b_len ?_
  refine wa_cons ?_
  refine w_ix ?_
  refine w_name 1 rfl (.inl rfl) rfl ?_
  refine w_int ?_
  first | refine ix_tupD 1 rfl rfl ?_ | refine ix_lstD 1 rfl rfl ?_ | refine ix_tupD 1 rfl (by assumption) ?_ | refine ix_lstD 1 rfl (by assumption) ?_ | refine ix_ptrD 0 rfl 1 rfl rfl ?_ | refine ix_ptrD 1 rfl 1 rfl rfl ?_ | refine ix_ptrD 2 rfl 1 rfl rfl ?_
  refine wa_nil ?_
  refine c_lenT ?_
  rw [List.length_map]
  -- _law_room = _law_take(_law_pen_here, _law_many)
  refine w_cons (w_set 4 sc__law_spoiled.nd rfl (.inl rfl) (.inl rfl) ?_)
  refine w_callG G__law_take hr ?_
  refine wa_cons ?_
  refine w_name 0 rfl (.inl rfl) rfl ?_
  refine wa_cons ?_
  refine w_name 3 rfl (.inl rfl) rfl ?_
  refine wa_nil ?_
  refine ⟨_, _, _, _, _, rfl, by walk_at "pen", by omega, by omega, fun r2 μ2 hr2 e2 => ?_⟩
  try simp only [List.set_cons_succ, List.set_set, List.set_cons_zero] at e2
  subst e2
  -- _law_ask = _law_take(_law_pen_here, _law_machine_here[0])
  refine w_cons (w_set 5 sc__law_spoiled.nd rfl (.inl rfl) (.inl rfl) ?_)
  refine w_callG G__law_take hr ?_
  refine wa_cons ?_
  refine w_name 0 rfl (.inl rfl) rfl ?_
  refine wa_cons ?_
  refine w_ix ?_
  refine w_name 1 rfl (.inl rfl) rfl ?_
  refine w_int ?_
  first | refine ix_tupD 0 rfl rfl ?_ | refine ix_lstD 0 rfl rfl ?_ | refine ix_tupD 0 rfl (by assumption) ?_ | refine ix_lstD 0 rfl (by assumption) ?_ | refine ix_ptrD 0 rfl 0 rfl rfl ?_ | refine ix_ptrD 1 rfl 0 rfl rfl ?_ | refine ix_ptrD 2 rfl 0 rfl rfl ?_
  refine wa_nil ?_
  refine ⟨_, _, _, _, _, rfl, by walk_at "pen", by omega, by omega, fun r3 μ3 hr3 e3 => ?_⟩
  try simp only [List.set_cons_succ, List.set_set, List.set_cons_zero] at e3
  subst e3
  -- _law_goes, _law_answer = _law_machine_here[1][_law_room][_law_ask]
  refine w_cons (w_asg ?_)
  refine w_ix ?_
  refine w_ix ?_
  refine w_ix ?_
  refine w_name 1 rfl (.inl rfl) rfl ?_
  refine w_int ?_
  first | refine ix_tupD 1 rfl rfl ?_ | refine ix_lstD 1 rfl rfl ?_ | refine ix_tupD 1 rfl (by assumption) ?_ | refine ix_lstD 1 rfl (by assumption) ?_ | refine ix_ptrD 0 rfl 1 rfl rfl ?_ | refine ix_ptrD 1 rfl 1 rfl rfl ?_ | refine ix_ptrD 2 rfl 1 rfl rfl ?_
  refine w_name 4 rfl (.inl rfl) rfl ?_
  have hr2' : r2 < M.rooms.length := by omega
  have hr3' : r3 < M.asks := by omega
  obtain ⟨g1, g2, g3⟩ := mach_at hM hr2' hr3'
  refine ix_tupD r2 rfl g1 ?_
  refine w_name 5 rfl (.inl rfl) rfl ?_
  refine ix_tupD r3 rfl g2 ?_
  first | refine wg_tup rfl rfl ?_ | refine wg_lst rfl rfl ?_
  refine wgs_cons ?_
  refine wg_name 6 sc__law_spoiled.nd rfl (.inl rfl) (.inl rfl) ?_
  refine wgs_cons ?_
  refine wg_name 7 sc__law_spoiled.nd rfl (.inl rfl) (.inl rfl) ?_
  refine wgs_nil ?_
  -- _law_to = _law_take(_law_pen_here, _law_many)
  refine w_cons (w_set 8 sc__law_spoiled.nd rfl (.inl rfl) (.inl rfl) ?_)
  refine w_callG G__law_take hr ?_
  refine wa_cons ?_
  refine w_name 0 rfl (.inl rfl) rfl ?_
  refine wa_cons ?_
  refine w_name 3 rfl (.inl rfl) rfl ?_
  refine wa_nil ?_
  refine ⟨_, _, _, _, _, rfl, by walk_at "pen", by omega, by omega, fun r4 μ4 hr4 e4 => ?_⟩
  try simp only [List.set_cons_succ, List.set_set, List.set_cons_zero] at e4
  subst e4
  -- _law_cell_here = [(_law_goes, None), (None, _law_answer), (_law_goes, _law_take(_law_pen_here, 8)), (_law_to, _law_answer)][_law_way]
  refine w_cons (w_set 9 sc__law_spoiled.nd rfl (.inl rfl) (.inl rfl) ?_)
  refine w_ix ?_
  refine w_lst ?_
  refine wa_cons ?_
  refine w_tup ?_
  refine wa_cons ?_
  refine w_name 6 rfl (.inl rfl) rfl ?_
  refine wa_cons ?_
  refine w_non ?_
  refine wa_nil ?_
  refine ⟨by simp, ?_⟩
  refine wa_cons ?_
  refine w_tup ?_
  refine wa_cons ?_
  refine w_non ?_
  refine wa_cons ?_
  refine w_name 7 rfl (.inl rfl) rfl ?_
  refine wa_nil ?_
  refine ⟨by simp, ?_⟩
  refine wa_cons ?_
  refine w_tup ?_
  refine wa_cons ?_
  refine w_name 6 rfl (.inl rfl) rfl ?_
  refine wa_cons ?_
  refine w_callG G__law_take hr ?_
  refine wa_cons ?_
  refine w_name 0 rfl (.inl rfl) rfl ?_
  refine wa_cons ?_
  refine w_int ?_
  refine wa_nil ?_
  refine ⟨_, _, _, _, _, rfl, by walk_at "pen", by omega, by omega, fun r5 μ5 hr5 e5 => ?_⟩
  try simp only [List.set_cons_succ, List.set_set, List.set_cons_zero] at e5
  subst e5
  refine wa_nil ?_
  refine ⟨by simp, ?_⟩
  refine wa_cons ?_
  refine w_tup ?_
  refine wa_cons ?_
  refine w_name 8 rfl (.inl rfl) rfl ?_
  refine wa_cons ?_
  refine w_name 7 rfl (.inl rfl) rfl ?_
  refine wa_nil ?_
  refine ⟨by simp, ?_⟩
  refine wa_nil ?_
  refine ⟨by simp, ?_⟩
  refine w_name 2 rfl (.inl rfl) rfl ?_
  obtain ⟨ce', hce', hok'⟩ : ∃ ce' : Cell, [D.tup [optD (M.cell r2 r3).1, .non], D.tup [.non, optD (M.cell r2 r3).2], D.tup [optD (M.cell r2 r3).1, .int r5], D.tup [.int r4, optD (M.cell r2 r3).2]][r1]? = some (cellD ce') ∧ cOk M.rooms.length 8 ce' := by
    obtain rfl | rfl | rfl | rfl : r1 = 0 ∨ r1 = 1 ∨ r1 = 2 ∨ r1 = 3 := by omega
    · exact ⟨((M.cell r2 r3).1, none), rfl, g3.1, fun g e => (nomatch e)⟩
    · exact ⟨(none, (M.cell r2 r3).2), rfl, fun g e => (nomatch e), g3.2⟩
    · exact ⟨((M.cell r2 r3).1, some r5), rfl, g3.1, fun g e => by cases e; omega⟩
    · exact ⟨(some r4, (M.cell r2 r3).2), rfl, fun g e => by cases e; omega, g3.2⟩
  refine ix_lstD r1 rfl hce' ?_
  -- _law_cells = _law_machine_here[1][_law_room][:_law_ask] + (_law_cell_here,) + _law_machine_here[1][_law_room][_law_ask + 1:]
  refine w_cons (w_set 10 sc__law_spoiled.nd rfl (.inl rfl) (.inl rfl) ?_)
  refine w_bin ?_
  refine w_bin ?_
  refine w_sl ?_
  refine w_ix ?_
  refine w_ix ?_
  refine w_name 1 rfl (.inl rfl) rfl ?_
  refine w_int ?_
  first | refine ix_tupD 1 rfl rfl ?_ | refine ix_lstD 1 rfl rfl ?_ | refine ix_tupD 1 rfl (by assumption) ?_ | refine ix_lstD 1 rfl (by assumption) ?_ | refine ix_ptrD 0 rfl 1 rfl rfl ?_ | refine ix_ptrD 1 rfl 1 rfl rfl ?_ | refine ix_ptrD 2 rfl 1 rfl rfl ?_
  refine w_name 4 rfl (.inl rfl) rfl ?_
  refine ix_tupD r2 rfl g1 ?_
  refine wo_none ?_
  refine wo_some ?_
  refine w_name 5 rfl (.inl rfl) rfl ?_
  refine ⟨_, rfl, ?_⟩
  refine sd_tup ?_
  rw [cut_map_to]
  refine w_tup ?_
  refine wa_cons ?_
  refine w_name 9 rfl (.inl rfl) rfl ?_
  refine wa_nil ?_
  refine ⟨by simp, ?_⟩
  have hrl := (roomD_len hM hr2').1
  refine o_addT (by simp only [List.length_map, List.length_take, List.length_cons, List.length_nil]; omega) ?_
  refine w_sl ?_
  refine w_ix ?_
  refine w_ix ?_
  refine w_name 1 rfl (.inl rfl) rfl ?_
  refine w_int ?_
  first | refine ix_tupD 1 rfl rfl ?_ | refine ix_lstD 1 rfl rfl ?_ | refine ix_tupD 1 rfl (by assumption) ?_ | refine ix_lstD 1 rfl (by assumption) ?_ | refine ix_ptrD 0 rfl 1 rfl rfl ?_ | refine ix_ptrD 1 rfl 1 rfl rfl ?_ | refine ix_ptrD 2 rfl 1 rfl rfl ?_
  refine w_name 4 rfl (.inl rfl) rfl ?_
  refine ix_tupD r2 rfl g1 ?_
  refine wo_some ?_
  refine w_bin ?_
  refine w_name 5 rfl (.inl rfl) rfl ?_
  refine w_int ?_
  first | refine o_addN (b := 1) ?_ | walk_at "Add"
  refine ⟨_, rfl, ?_⟩
  refine wo_none ?_
  refine sd_tup ?_
  rw [cut_map_from]
  refine o_addT (by simp only [List.length_append, List.length_map, List.length_take, List.length_drop, List.length_cons, List.length_nil]; omega) ?_
  -- return (_law_machine_here[0], _law_machine_here[1][:_law_room] + (_law_cells,) + _law_machine_here[1][_law_room + 1:])
  refine w_cons (w_ret ?_)
  refine w_tup ?_
  refine wa_cons ?_
  refine w_ix ?_
  refine w_name 1 rfl (.inl rfl) rfl ?_
  refine w_int ?_
  first | refine ix_tupD 0 rfl rfl ?_ | refine ix_lstD 0 rfl rfl ?_ | refine ix_tupD 0 rfl (by assumption) ?_ | refine ix_lstD 0 rfl (by assumption) ?_ | refine ix_ptrD 0 rfl 0 rfl rfl ?_ | refine ix_ptrD 1 rfl 0 rfl rfl ?_ | refine ix_ptrD 2 rfl 0 rfl rfl ?_
  refine wa_cons ?_
  refine w_bin ?_
  refine w_bin ?_
  refine w_sl ?_
  refine w_ix ?_
  refine w_name 1 rfl (.inl rfl) rfl ?_
  refine w_int ?_
  first | refine ix_tupD 1 rfl rfl ?_ | refine ix_lstD 1 rfl rfl ?_ | refine ix_tupD 1 rfl (by assumption) ?_ | refine ix_lstD 1 rfl (by assumption) ?_ | refine ix_ptrD 0 rfl 1 rfl rfl ?_ | refine ix_ptrD 1 rfl 1 rfl rfl ?_ | refine ix_ptrD 2 rfl 1 rfl rfl ?_
  refine wo_none ?_
  refine wo_some ?_
  refine w_name 4 rfl (.inl rfl) rfl ?_
  refine ⟨_, rfl, ?_⟩
  refine sd_tup ?_
  rw [cut_map_to]
  refine w_tup ?_
  refine wa_cons ?_
  refine w_name 10 rfl (.inl rfl) rfl ?_
  refine wa_nil ?_
  refine ⟨by simp, ?_⟩
  refine o_addT (by simp only [List.length_map, List.length_take, List.length_cons, List.length_nil]; omega) ?_
  refine w_sl ?_
  refine w_ix ?_
  refine w_name 1 rfl (.inl rfl) rfl ?_
  refine w_int ?_
  first | refine ix_tupD 1 rfl rfl ?_ | refine ix_lstD 1 rfl rfl ?_ | refine ix_tupD 1 rfl (by assumption) ?_ | refine ix_lstD 1 rfl (by assumption) ?_ | refine ix_ptrD 0 rfl 1 rfl rfl ?_ | refine ix_ptrD 1 rfl 1 rfl rfl ?_ | refine ix_ptrD 2 rfl 1 rfl rfl ?_
  refine wo_some ?_
  refine w_bin ?_
  refine w_name 4 rfl (.inl rfl) rfl ?_
  refine w_int ?_
  first | refine o_addN (b := 1) ?_ | walk_at "Add"
  refine ⟨_, rfl, ?_⟩
  refine wo_none ?_
  refine sd_tup ?_
  rw [cut_map_from]
  refine o_addT (by simp only [List.length_append, List.length_map, List.length_take, List.length_drop, List.length_cons, List.length_nil]; omega) ?_
  refine wa_nil ?_
  refine ⟨by simp, ?_⟩
  rw [setC_D hM hr2' hr3']
  exact k _ (n + 5) _ (setC_ok hM hr2' hok') rfl (by omega) (by first | rfl | simp only [List.set_set])
end
/-! ### what is due: rows longer by one ask each turn -/
theorem opt_eqF (x y : Option Nat) : D.eqf (optD x) (optD y) = (x == y) := by
  cases x with
  | none => cases y <;> rfl
  | some x =>
    cases y with
    | none => rfl
    | some y =>
      show ((x : Int) == (y : Int)) = (some x == some y)
      rw [Bool.eq_iff_iff, beq_iff_eq, beq_iff_eq]
      constructor
      · intro h; rw [show x = y by omega]
      · intro h; cases h; rfl
theorem eqv_nilS (ds : List D) : PyData.eqv (D.lst ds).py (D.lst []).py = ds.isEmpty := by
  cases ds with
  | nil => simp only [D.py, D.pys, PyData.eqv, PyData.eqvAll]; rfl
  | cons d ds => simp only [D.py, D.pys, PyData.eqv, PyData.eqvAll]; rfl
def entD (e : Sy.Ent) : D := .tup [natP e.1, rowD e.2]
theorem ly_natP (p : Nat × Nat) : Ly (natP p) 1 := Ly.tup (.cons (Ly.int _) (.cons (Ly.int _) .nil))
theorem ly_yes : Ly (.str "yes") 0 := ⟨by simp only [D.still], by simp only [D.py, PyData.canLay0]; decide +kernel, by simp only [D.py, PyData.depth]; exact Nat.le_refl _⟩
theorem ly_rowD (l : List Nat) : Ly (rowD l) 1 := Ly.tup (Lys.map fun a _ => Ly.int a)
theorem ly_ent (e : Sy.Ent) : Ly (entD e) 2 := Ly.tup (.cons (ly_natP e.1) (.cons (ly_rowD e.2) .nil))
def metT (S : List (Nat × Nat)) : List (List Key × D) := S.map fun p => (pk2 p, D.bl true)
theorem metT_in (S : List (Nat × Nat)) (q : Nat × Nat) : (valD (metT S) (pk2 q)).isSome = decide (q ∈ S) := by
  by_cases h : q ∈ S
  · rw [decide_eq_true h, show valD (metT S) (pk2 q) = some (.bl true) from valD_some (f := fun p : Nat × Nat => pk2 p) (g := fun _ => D.bl true) ⟨q, h, rfl⟩ fun _ _ _ => rfl]
    rfl
  · rw [decide_eq_false h, show valD (metT S) (pk2 q) = none from valD_none (f := fun p : Nat × Nat => pk2 p) (g := fun _ => D.bl true) fun a ha e => h (pk2_inj e ▸ ha)]
    rfl
theorem metT_put {S : List (Nat × Nat)} {q : Nat × Nat} (h : q ∉ S) : putD (metT S) (pk2 q) (.bl true) = metT (S ++ [q]) := by
  have hv : valD (metT S) (pk2 q) = none := by
    have := metT_in S q
    rw [decide_eq_false h] at this
    cases z : valD (metT S) (pk2 q) with
    | none => rfl
    | some x => rw [z] at this; cases this
  rw [putD_new hv]
  unfold metT
  rw [List.map_append]
  rfl
theorem metT_same {S : List (Nat × Nat)} {q : Nat × Nat} (h : q ∈ S) : putD (metT S) (pk2 q) (.bl true) = metT S :=
  putD_same (by rw [metT_in]; exact decide_eq_true h) fun e he _ => by obtain ⟨p, _, rfl⟩ := List.mem_map.mp he; rfl
theorem isn_none (x : Option Nat) : D.isN (optD x) = x.isNone := by cases x <;> rfl
theorem isn_some (x : Option Nat) : (!D.isN (optD x)) = x.isSome := by cases x <;> rfl
theorem metT_next {S L : List (Nat × Nat)} {i : Nat} {x : Nat × Nat} (hS : ∀ p, p ∈ S ↔ p ∈ L.take i) (hl : S.length ≤ i) (hx : L[i]? = some x) :
    ∃ S', (∀ p, p ∈ S' ↔ p ∈ L.take (i + 1)) ∧ S'.length ≤ i + 1 ∧ putD (metT S) (pk2 x) (.bl true) = metT S' := by
  by_cases h : x ∈ S
  · refine ⟨S, fun p => ?_, by omega, metT_same h⟩
    rw [take_next hx, List.mem_append, List.mem_singleton, ← hS p]
    exact ⟨.inl, fun z => z.elim id fun e => e ▸ h⟩
  · refine ⟨S ++ [x], fun p => ?_, by rw [List.length_append]; show S.length + 1 ≤ _; omega, metT_put h⟩
    rw [take_next hx, List.mem_append, List.mem_append, ← hS p]
end L16

namespace L16
open PySem PySem.Spec L2 Oc
open Evl (Ex)
local macro_rules | `(tactic| walk_at "s") => `(tactic| first | assumption | omega | decide | (simp only [] at *; omega))
local macro_rules | `(tactic| walk_at "Add") => `(tactic| first | refine o_addN ?_ | refine o_add ?_ | refine o_addS (by walk_at "s") ?_ | refine o_addT (by walk_at "s") ?_ | refine o_addL (by walk_at "s") ?_)
local macro_rules | `(tactic| walk_at "Sub") => `(tactic| refine o_sub ?_)
local macro_rules | `(tactic| walk_at "Mult") => `(tactic| refine o_mul (by walk_at "s") ?_)
local macro_rules | `(tactic| walk_at "Mod") => `(tactic| first | refine o_modN (by walk_at "s") ?_ | refine o_mod (by walk_at "s") ?_)
local macro_rules | `(tactic| walk_at "FloorDiv") => `(tactic| first | refine o_divN (by walk_at "s") ?_ | refine o_div (by walk_at "s") ?_)
local macro_rules | `(tactic| walk_at "Pow") => `(tactic| refine o_pow (by walk_at "s") ?_)
local macro_rules | `(tactic| walk_at "LShift") => `(tactic| refine o_shl (by walk_at "s") ?_)
local macro_rules | `(tactic| walk_at "RShift") => `(tactic| refine o_shr (by walk_at "s") ?_)
local macro_rules | `(tactic| walk_at "BitAnd") => `(tactic| refine o_band ?_)
local macro_rules | `(tactic| walk_at "BitXor") => `(tactic| refine o_bxor ?_)
local macro_rules | `(tactic| walk_at "BitOr") => `(tactic| refine o_bor ?_)
local macro_rules | `(tactic| walk_at "Lt") => `(tactic| refine o_lt ?_)
local macro_rules | `(tactic| walk_at "LtE") => `(tactic| refine o_le ?_)
local macro_rules | `(tactic| walk_at "Gt") => `(tactic| refine o_gt ?_)
local macro_rules | `(tactic| walk_at "GtE") => `(tactic| refine o_ge ?_)
local macro_rules | `(tactic| walk_at "Eq") => `(tactic| refine o_eq (by rfl) ?_)
local macro_rules | `(tactic| walk_at "NotEq") => `(tactic| refine o_ne (by rfl) ?_)
local macro_rules | `(tactic| walk_at "Is") => `(tactic| refine o_isN ?_)
local macro_rules | `(tactic| walk_at "IsNot") => `(tactic| refine o_notN ?_)
local macro_rules | `(tactic| walk_at "In") => `(tactic| refine o_in (by first | exact .inl rfl | exact .inr (.inl rfl) | exact .inr (.inr rfl)) (by rfl) (by rfl) ?_)
local macro_rules | `(tactic| walk_at "NotIn") => `(tactic| refine o_nin (by first | exact .inl rfl | exact .inr (.inl rfl) | exact .inr (.inr rfl)) (by rfl) (by rfl) ?_)
local macro_rules | `(tactic| walk_at "c_abs") => `(tactic| refine c_abs ?_)
local macro_rules | `(tactic| walk_at "c_len") => `(tactic| first | refine c_lenL ?_ | refine c_lenC ?_ | refine c_lenT ?_ | refine c_lenS (by walk_at "s") ?_ | refine c_lenP 0 (by first | assumption | rfl) ?_)
local macro_rules | `(tactic| walk_at "c_str") => `(tactic| refine c_str (by walk_at "s") ?_)
local macro_rules | `(tactic| walk_at "c_isinstance") => `(tactic| refine c_isi rfl (by rfl) ?_)
local macro_rules | `(tactic| walk_at "sl") => `(tactic| first | refine sd_tup ?_ | refine sd_lst ?_)
local macro_rules | `(tactic| walk_at "c_tuple") => `(tactic| first | refine c_tupL ?_ | refine c_tupP 0 (by first | assumption | rfl) ?_ | refine c_tupT ?_)
local macro_rules | `(tactic| walk_at "c_int") => `(tactic| first | refine c_intB ?_)
local macro_rules | `(tactic| walk_at "USub") => `(tactic| refine u_neg ?_)
local macro_rules | `(tactic| walk_at "pen") => `(tactic| first | assumption | exact get_set (by assumption) | exact get_set (get_set (by assumption)) | exact get_here | (apply get_cons; walk_at "pen") | (apply get_app; walk_at "pen"))
local macro_rules | `(tactic| walk_at "mu") => `(tactic| simp only [List.set_cons_succ, List.set_set, List.set_cons_zero])
/-! ### things of any kind -/
def IsK (μ : Mu) (d : D) (t : String) : Prop := d.cls = some (.type t) ∨ (t = "dict" ∧ ∃ (q : Addr) (l : List (Key × D)), d = .ptr q ∧ (q, MO.dk l) ∈ μ) ∨ (t = "list" ∧ ∃ (q : Addr) (l : List D), d = .ptr q ∧ (q, MO.lst l) ∈ μ) ∨ (t = "dict" ∧ ∃ (q : Addr) (l : List (List Key × D)), d = .ptr q ∧ (q, MO.dt l) ∈ μ)
theorem c_isiD {X : Cy} {d : D} {μ : Mu} {Φ : D → Mu → Prop} {t n : String} {k : Bool} (h : IsK μ d t) (hk : PySem.W.kitOne X.K (.type t) (.type n) = some k) (z : Φ (.bl k) μ) : wCl X (.builtin "isinstance") [d, .ty n] μ Φ := by
  rcases h with h | ⟨rfl, q, l, rfl, hm⟩ | ⟨rfl, q, l, rfl, hm⟩ | ⟨rfl, q, l, rfl, hm⟩
  · exact c_isi h hk z
  · obtain ⟨m, hlt, hm⟩ := List.mem_iff_getElem.mp hm
    have hm' : μ[m]? = some (q, MO.dk l) := by rw [List.getElem?_eq_getElem hlt, hm]
    exact wcl_of call_isi fun F H xs hs r1 Q kt => by
      cases r1 with
      | cons r rr =>
        cases rr with
        | cons r2 rr =>
          cases rr
          cases r2
          cases r
          obtain ⟨vs, g, rx⟩ := hs.dk hm'
          exact ⟨_, _, _, _, k, rfl, .ty n, .base (.dK g), hk, kt.now z hs (.bl _)⟩
  · obtain ⟨m, hlt, hm⟩ := List.mem_iff_getElem.mp hm
    have hm' : μ[m]? = some (q, MO.lst l) := by rw [List.getElem?_eq_getElem hlt, hm]
    exact c_isiP m hm' hk z
  · obtain ⟨m, hlt, hm⟩ := List.mem_iff_getElem.mp hm
    have hm' : μ[m]? = some (q, MO.dt l) := by rw [List.getElem?_eq_getElem hlt, hm]
    exact c_isiT m hm' hk z
abbrev KS : List String := ["NoneType", "bool", "int", "str", "list", "dict", "tuple"]
theorem ks_cases {t : String} (h : t ∈ KS) : t = "NoneType" ∨ t = "bool" ∨ t = "int" ∨ t = "str" ∨ t = "list" ∨ t = "dict" ∨ t = "tuple" := by simpa [KS] using h
theorem kit_tup {K : PySem.W.Frag} {t : String} (h : t ∈ KS) : PySem.W.kitOne K (.type t) (.type "tuple") = some (decide (t = "tuple")) := by
  rcases ks_cases h with rfl | rfl | rfl | rfl | rfl | rfl | rfl <;> rfl
theorem kit_lst {K : PySem.W.Frag} {t : String} (h : t ∈ KS) : PySem.W.kitOne K (.type t) (.type "list") = some (decide (t = "list")) := by
  rcases ks_cases h with rfl | rfl | rfl | rfl | rfl | rfl | rfl <;> rfl
theorem kit_int {K : PySem.W.Frag} {t : String} (h : t ∈ KS) : PySem.W.kitOne K (.type t) (.type "int") = some (decide (t = "int" ∨ t = "bool")) := by
  rcases ks_cases h with rfl | rfl | rfl | rfl | rfl | rfl | rfl <;> rfl
theorem kit_bool {K : PySem.W.Frag} {t : String} (h : t ∈ KS) : PySem.W.kitOne K (.type t) (.type "bool") = some (decide (t = "bool")) := by
  rcases ks_cases h with rfl | rfl | rfl | rfl | rfl | rfl | rfl <;> rfl
theorem isK_cls {μ : Mu} {d : D} {t u : String} (h : IsK μ d t) (hc : d.cls = some (.type u)) : t = u := by
  rcases h with h | ⟨_, q, l, rfl, _⟩ | ⟨_, q, l, rfl, _⟩ | ⟨_, q, l, rfl, _⟩
  · rw [hc] at h; cases h; rfl
  · cases hc
  · cases hc
  · cases hc
def Item (μ : Mu) (x : D) : Prop := (∃ i : Int, x = .int i) ∨ ∃ t ∈ KS, t ≠ "int" ∧ IsK μ x t
def Elem (μ : Mu) (d : D) : Prop := (∃ t ∈ KS, t ≠ "tuple" ∧ IsK μ d t) ∨ ∃ xs, d = .tup xs ∧ xs.length ≤ 100 ∧ ∀ x ∈ xs, Item μ x
theorem Item.kind {μ : Mu} {x : D} (h : Item μ x) : ∃ t ∈ KS, IsK μ x t ∧ (t = "int" → ∃ i : Int, x = .int i) ∧ ((∃ i : Int, x = .int i) → t = "int") := by
  rcases h with ⟨i, rfl⟩ | ⟨t, h1, h2, h3⟩
  · exact ⟨"int", by simp, .inl rfl, fun _ => ⟨i, rfl⟩, fun _ => rfl⟩
  · exact ⟨t, h1, h3, fun z => absurd z h2, fun ⟨i, z⟩ => isK_cls h3 (by rw [z]; rfl)⟩
theorem Elem.kind {μ : Mu} {d : D} (h : Elem μ d) : ∃ t ∈ KS, IsK μ d t ∧ (t = "tuple" → ∃ xs, d = .tup xs ∧ xs.length ≤ 100 ∧ ∀ x ∈ xs, Item μ x) ∧ ((∃ xs, d = .tup xs) → t = "tuple") := by
  rcases h with ⟨t, h1, h2, h3⟩ | ⟨xs, rfl, h1, h2⟩
  · exact ⟨t, h1, h3, fun z => absurd z h2, fun ⟨i, z⟩ => isK_cls h3 (by rw [z]; rfl)⟩
  · exact ⟨"tuple", by simp, .inl rfl, fun _ => ⟨xs, rfl, h1, h2⟩, fun _ => rfl⟩
theorem IsK.sub {μ ν : Mu} {d : D} {t : String} (hs : μ.Sublist ν) (h : IsK μ d t) : IsK ν d t := by
  rcases h with h | ⟨h1, q, l, h2, h3⟩ | ⟨h1, q, l, h2, h3⟩ | ⟨h1, q, l, h2, h3⟩
  · exact .inl h
  · exact .inr (.inl ⟨h1, q, l, h2, hs.subset h3⟩)
  · exact .inr (.inr (.inl ⟨h1, q, l, h2, hs.subset h3⟩))
  · exact .inr (.inr (.inr ⟨h1, q, l, h2, hs.subset h3⟩))
theorem Item.sub {μ ν : Mu} {x : D} (hs : μ.Sublist ν) (h : Item μ x) : Item ν x := h.imp id fun ⟨t, h1, h2, h3⟩ => ⟨t, h1, h2, h3.sub hs⟩
theorem Elem.sub {μ ν : Mu} {d : D} (hs : μ.Sublist ν) (h : Elem μ d) : Elem ν d := h.imp (fun ⟨t, h1, h2, h3⟩ => ⟨t, h1, h2, h3.sub hs⟩) fun ⟨xs, h1, h2, h3⟩ => ⟨xs, h1, h2, fun x hx => (h3 x hx).sub hs⟩
/-! ### what a thing lacks -/
theorem notT {b : Bool} (h : (!b) = true) : b = false := by cases b with
  | false => rfl
  | true => cases h
theorem notF {b : Bool} (h : (!b) = false) : b = true := by cases b with
  | false => cases h
  | true => rfl
def okB (m : Nat) : D → Bool
  | .int a => decide (0 ≤ a) && decide (a < m)
  | _ => false
def isPairB (m n : Nat) : D → Bool
  | .tup [y, z] => okB m y && okB n z
  | _ => false
def isIntB : D → Bool
  | .int _ => true
  | _ => false
def pairK : D → Bool
  | .tup [y, z] => isIntB y && isIntB z
  | _ => false
def len2 : D → Bool
  | .tup [_, _] => true
  | _ => false
theorem isIntB_no {x : D} (h : ¬ ∃ i : Int, x = .int i) : isIntB x = false := by
  cases x with
  | int i => exact absurd ⟨i, rfl⟩ h
  | _ => rfl
theorem okB_no {m : Nat} {x : D} (h : ¬ ∃ i : Int, x = .int i) : okB m x = false := by
  cases x with
  | int i => exact absurd ⟨i, rfl⟩ h
  | _ => rfl
theorem isIntB_yes {x : D} (h : isIntB x = true) : ∃ i : Int, x = .int i := by
  cases x with
  | int i => exact ⟨i, rfl⟩
  | _ => cases h
theorem pairK_no {x : D} (h : ¬ ∃ xs, x = .tup xs) : pairK x = false := by
  cases x with
  | tup i => exact absurd ⟨i, rfl⟩ h
  | _ => rfl
theorem len2_no {x : D} (h : ¬ ∃ xs, x = .tup xs) : len2 x = false := by
  cases x with
  | tup i => exact absurd ⟨i, rfl⟩ h
  | _ => rfl
theorem pairK_len {xs : List D} (h : xs.length ≠ 2) : pairK (.tup xs) = false := by
  match xs, h with
  | [], _ => rfl
  | [_], _ => rfl
  | [_, _], h => exact absurd rfl h
  | _ :: _ :: _ :: _, _ => rfl
theorem len2_len {xs : List D} : len2 (.tup xs) = decide (xs.length = 2) := by
  match xs with
  | [] => rfl
  | [_] => rfl
  | [_, _] => rfl
  | _ :: _ :: _ :: r => exact (decide_eq_false (by simp)).symm
theorem two_of {xs : List D} (h : xs.length = 2) : ∃ y z, xs = [y, z] := by
  match xs, h with
  | [a, b], _ => exact ⟨a, b, rfl⟩
theorem len2_yes {x : D} (h : len2 x = true) : ∃ y z, x = .tup [y, z] := by
  cases x with
  | tup xs =>
    rw [len2_len, decide_eq_true_iff] at h
    obtain ⟨y, z, rfl⟩ := two_of h
    exact ⟨y, z, rfl⟩
  | _ => cases h
theorem isPair_len {m n : Nat} {x : D} (h : len2 x = false) : isPairB m n x = false := by
  cases x with
  | tup xs =>
    match xs, h with
    | [], _ => rfl
    | [_], _ => rfl
    | _ :: _ :: _ :: _, _ => rfl
  | _ => rfl
theorem pairK_yes {x : D} (h : pairK x = true) : ∃ a b : Int, x = .tup [.int a, .int b] := by
  cases x with
  | tup xs =>
    match xs, h with
    | [y, z], h =>
      have h : (isIntB y && isIntB z) = true := h
      rw [Bool.and_eq_true] at h
      obtain ⟨a, rfl⟩ := isIntB_yes h.1
      obtain ⟨b, rfl⟩ := isIntB_yes h.2
      exact ⟨a, b, rfl⟩
  | _ => cases h
theorem isPair_K {m n : Nat} {x : D} (h : pairK x = false) : isPairB m n x = false := by
  cases x with
  | tup xs =>
    match xs, h with
    | [], _ => rfl
    | [_], _ => rfl
    | [y, z], h =>
      have h : (isIntB y && isIntB z) = false := h
      show (okB m y && okB n z) = false
      rw [Bool.and_eq_false_iff] at h
      rcases h with h | h
      · rw [okB_no fun ⟨i, e⟩ => by rw [e] at h; cases h]; rfl
      · rw [okB_no (x := z) (fun ⟨i, e⟩ => by rw [e] at h; cases h), Bool.and_false]
    | _ :: _ :: _ :: _, _ => rfl
  | _ => rfl
theorem okB_yes {m : Nat} {x : D} (h : okB m x = true) : ∃ a : Nat, x = .int a ∧ a < m := by
  cases x with
  | int i =>
    have h : (decide (0 ≤ i) && decide (i < m)) = true := h
    rw [Bool.and_eq_true, decide_eq_true_iff, decide_eq_true_iff] at h
    exact ⟨i.toNat, by congr 1; omega, by omega⟩
  | _ => cases h
theorem pair_yes {m n : Nat} {x : D} (h : isPairB m n x = true) : ∃ p : Nat × Nat, x = natP p ∧ p.1 < m ∧ p.2 < n := by
  cases x with
  | tup xs =>
    match xs, h with
    | [y, z], h =>
      have h : (okB m y && okB n z) = true := h
      rw [Bool.and_eq_true] at h
      obtain ⟨a, rfl, ha⟩ := okB_yes h.1
      obtain ⟨b, rfl, hb⟩ := okB_yes h.2
      exact ⟨(a, b), rfl, ha, hb⟩
  | _ => cases h
theorem pairs_yes {m n : Nat} : ∀ {ds : List D}, ds.all (isPairB m n) = true → ∃ L : List (Nat × Nat), ds = L.map natP ∧ ∀ p ∈ L, p.1 < m ∧ p.2 < n
  | [], _ => ⟨[], rfl, fun p hp => nomatch hp⟩
  | d :: ds, h => by
    rw [List.all_cons, Bool.and_eq_true] at h
    obtain ⟨p, rfl, h1⟩ := pair_yes h.1
    obtain ⟨L, rfl, h2⟩ := pairs_yes h.2
    exact ⟨p :: L, rfl, fun q hq => (List.mem_cons.mp hq).elim (fun e => e ▸ h1) (h2 q)⟩
theorem pair_nat {m n : Nat} {p : Nat × Nat} (h : p.1 < m ∧ p.2 < n) : isPairB m n (natP p) = true := by
  show ((decide ((0 : Int) ≤ (p.1 : Nat)) && decide (((p.1 : Nat) : Int) < (m : Int))) && (decide ((0 : Int) ≤ (p.2 : Nat)) && decide (((p.2 : Nat) : Int) < (n : Int)))) = true
  rw [decide_eq_true (by omega), decide_eq_true (by omega), decide_eq_true (by omega), decide_eq_true (by omega)]; rfl
theorem pairs_nat {m n : Nat} {L : List (Nat × Nat)} (h : ∀ p ∈ L, p.1 < m ∧ p.2 < n) : (L.map natP).all (isPairB m n) = true := by
  rw [List.all_map, List.all_eq_true]
  exact fun p hp => pair_nat (h p hp)
theorem natP_inj {p q : Nat × Nat} (h : natP p = natP q) : p = q := by
  obtain ⟨a, b⟩ := p
  obtain ⟨c, d⟩ := q
  have h : D.tup [.int (a : Int), .int (b : Int)] = .tup [.int (c : Int), .int (d : Int)] := h
  injection h with h
  injection h with h1 h
  injection h with h2 _
  injection h1 with h1
  injection h2 with h2
  rw [show a = c by omega, show b = d by omega]
theorem natPs_inj : ∀ {L K : List (Nat × Nat)}, L.map natP = K.map natP → L = K
  | [], [], _ => rfl
  | [], _ :: _, h => by cases h
  | _ :: _, [], h => by cases h
  | p :: L, q :: K, h => by
    rw [List.map_cons, List.map_cons] at h
    injection h with h1 h2
    rw [natP_inj h1, natPs_inj h2]
def wordF (M N : Mach) (L : List (Nat × Nat)) (p : Nat × Nat) (a : Nat) : Option Str := if saysB (M.cell p.1 a) (N.cell p.2 a) then some ("says" : Str) else if goesB (M.cell p.1 a) (N.cell p.2 a) then some ("goes" : Str) else match nextW (M.cell p.1 a) (N.cell p.2 a) with
  | some g => if g ∈ L then none else some ("behind" : Str)
  | none => none
def FaultAt (M N : Mach) (L : List (Nat × Nat)) (d : D) : Prop := (d = .non ∧ ∀ (k : Nat) (p : Nat × Nat), L[k]? = some p → ∀ a, a < M.asks → wordF M N L p a = none) ∨ ∃ (k : Nat) (p : Nat × Nat) (a : Nat) (w : Str), L[k]? = some p ∧ a < M.asks ∧ wordF M N L p a = some w ∧ d = .tup [.str w, .int (k : Nat), .int (a : Nat)] ∧
  (∀ (k' : Nat) (p' : Nat × Nat), k' < k → L[k']? = some p' → ∀ a', a' < M.asks → wordF M N L p' a' = none) ∧ ∀ a', a' < a → wordF M N L p a' = none
theorem faultAt_uniq {M N : Mach} {L : List (Nat × Nat)} {d e : D} (h1 : FaultAt M N L d) (h2 : FaultAt M N L e) : d = e := by
  rcases h1 with ⟨rfl, h1⟩ | ⟨k, p, a, w, hk, ha, hw, rfl, h1, h1'⟩ <;> rcases h2 with ⟨rfl, h2⟩ | ⟨k2, p2, a2, w2, hk2, ha2, hw2, rfl, h2, h2'⟩
  · rfl
  · rw [h1 k2 p2 hk2 a2 ha2] at hw2; cases hw2
  · rw [h2 k p hk a ha] at hw; cases hw
  · have e1 : k = k2 := by
      rcases Nat.lt_trichotomy k k2 with z | z | z
      · rw [h2 k p z hk a ha] at hw; cases hw
      · exact z
      · rw [h1 k2 p2 z hk2 a2 ha2] at hw2; cases hw2
    subst e1
    rw [hk] at hk2
    cases hk2
    have e2 : a = a2 := by
      rcases Nat.lt_trichotomy a a2 with z | z | z
      · rw [h2' a z] at hw; cases hw
      · exact z
      · rw [h1' a2 z] at hw2; cases hw2
    subst e2
    rw [hw] at hw2
    cases hw2
    rfl
abbrev InP (M N : Mach) (p : Nat × Nat) : Prop := p.1 < M.rooms.length ∧ p.2 < N.rooms.length
def FaultL (M N : Mach) (ds : List D) (d : D) : Prop := (ds.all (isPairB M.rooms.length N.rooms.length) = false ∧ d = .tup [.str "shape"]) ∨ ∃ L, ds = L.map natP ∧ (∀ p ∈ L, InP M N p) ∧ (((0, 0) ∉ L ∧ d = .tup [.str "begin"]) ∨ ((0, 0) ∈ L ∧ FaultAt M N L d))
theorem faultL_uniq {M N : Mach} {ds : List D} {d e : D} (h1 : FaultL M N ds d) (h2 : FaultL M N ds e) : d = e := by
  rcases h1 with ⟨h1, rfl⟩ | ⟨L, rfl, hi, h1⟩ <;> rcases h2 with ⟨h2, rfl⟩ | ⟨K, e2, hj, h2⟩
  · rfl
  · subst e2; rw [pairs_nat hj] at h1; cases h1
  · rw [pairs_nat hi] at h2; cases h2
  · have e3 := natPs_inj e2
    subst e3
    rcases h1 with ⟨h1, rfl⟩ | ⟨h1, h1'⟩ <;> rcases h2 with ⟨h2, rfl⟩ | ⟨h2, h2'⟩
    · rfl
    · exact absurd h2 h1
    · exact absurd h1 h2
    · exact faultAt_uniq h1' h2'
def FaultO (M N : Mach) (o : Option (List D)) (d : D) : Prop := match o with
  | none => d = .tup [.str "shape"]
  | some ds => FaultL M N ds d
theorem faultO_uniq {M N : Mach} {o : Option (List D)} {d e : D} (h1 : FaultO M N o d) (h2 : FaultO M N o e) : d = e := by
  cases o with
  | none => exact h1.trans h2.symm
  | some ds => exact faultL_uniq h1 h2
def goodO (m n : Nat) : Option (List D) → Bool
  | none => false
  | some ds => ds.all (isPairB m n)
/-- a thing that stands still: a list, or none -/
def StandsAs (μ : Mu) (x : D) (o : Option (List D)) : Prop := (∃ ds, x = .lst ds ∧ o = some ds ∧ ds.length ≤ 100000 ∧ ∀ y ∈ ds, Elem μ y) ∨ (∃ t ∈ KS, t ≠ "list" ∧ IsK μ x t ∧ o = none)
theorem StandsAs.kind {μ : Mu} {x : D} {o : Option (List D)} (h : StandsAs μ x o) : ∃ t ∈ KS, IsK μ x t ∧ (t = "list" → ∃ ds, x = .lst ds ∧ o = some ds ∧ ds.length ≤ 100000 ∧ ∀ y ∈ ds, Elem μ y) ∧ (t ≠ "list" → o = none) := by
  rcases h with ⟨ds, rfl, h2, h3, h4⟩ | ⟨t, h1, h2, h3, h4⟩
  · exact ⟨"list", by simp, .inl rfl, fun _ => ⟨ds, rfl, h2, h3, h4⟩, fun z => absurd rfl z⟩
  · exact ⟨t, h1, h3, fun z => absurd z h2, fun _ => h4⟩
theorem mem_next {L : List (Nat × Nat)} {k : Nat} {x : Nat × Nat} (hx : L[k]? = some x) : x ∈ L := List.mem_of_getElem? hx
/-! ### the program's look at pairs -/
def S_whole16 : FS := fun ds μ Φ => ∃ x : D, ds = [x] ∧ Item μ x ∧ Φ (.bl (isIntB x)) μ
def S_ispair16 : FS := fun ds μ Φ => ∃ (M N : Mach) (x : D), ds = [machD M, machD N, x] ∧ Elem μ x ∧ Φ (.bl (isPairB M.rooms.length N.rooms.length x)) μ
def optW : Option Str → D
  | none => .non
  | some w => .str w
def S_pword16 : FS := fun ds μ Φ => ∃ (M N : Mach) (S : List (Nat × Nat)) (q : Addr) (i : Nat) (p : Nat × Nat) (a : Nat), ds = [machD M, machD N, .ptr q, natP p, .int (a : Nat)] ∧ μ[i]? = some (q, .dt (metT S)) ∧ M.Ok 24 ∧ N.Ok 24 ∧ M.asks = N.asks ∧ InP M N p ∧ a < M.asks ∧ Φ (optW (wordF M N S p a)) μ
def S_pfaultL : FS := fun ds μ Φ => ∃ (M N : Mach) (x : D) (o : Option (List D)), ds = [machD M, machD N, x] ∧ M.Ok 24 ∧ N.Ok 24 ∧ M.asks = N.asks ∧ StandsAs μ x o ∧ ∀ d, FaultO M N o d → Φ d μ
def S_pfaultP : FS := fun ds μ Φ => ∃ (M N : Mach) (q : Addr) (ys : List D) (μ0 : Mu), ds = [machD M, machD N, .ptr q] ∧ μ = (q, .lst ys) :: μ0 ∧ M.Ok 24 ∧ N.Ok 24 ∧ M.asks = N.asks ∧ ys.length ≤ 100000 ∧ (∀ y ∈ ys, Elem μ0 y) ∧ ∀ d, FaultL M N ys d → Φ d μ
theorem wordF_congr {M N : Mach} {S L : List (Nat × Nat)} (h : ∀ g, g ∈ S ↔ g ∈ L) (p : Nat × Nat) (a : Nat) : wordF M N S p a = wordF M N L p a := by
  unfold wordF
  split
  · rfl
  · split
    · rfl
    · cases nextW (M.cell p.1 a) (N.cell p.2 a) with
      | none => rfl
      | some g =>
        show (if g ∈ S then none else _) = (if g ∈ L then none else _)
        by_cases hg : g ∈ S
        · rw [if_pos hg, if_pos ((h g).mp hg)]
        · rw [if_neg hg, if_neg fun z => hg ((h g).mpr z)]
theorem wordF_bad {M N : Mach} {S : List (Nat × Nat)} {p : Nat × Nat} {a : Nat} (h : badW (M.cell p.1 a) (N.cell p.2 a) = true) : optW (wordF M N S p a) = wordD (M.cell p.1 a) (N.cell p.2 a) := by
  unfold wordF wordD
  unfold badW at h
  rw [Bool.or_eq_true] at h
  by_cases h1 : saysB (M.cell p.1 a) (N.cell p.2 a) = true
  · rw [if_pos h1, if_pos h1]; rfl
  · rw [if_neg h1, if_neg h1]
    have h2 := h.resolve_left h1
    rw [if_pos h2, if_pos h2]; rfl
theorem wordF_good {M N : Mach} {S : List (Nat × Nat)} {p : Nat × Nat} {a : Nat} (h : badW (M.cell p.1 a) (N.cell p.2 a) = false) : wordF M N S p a = (match nextW (M.cell p.1 a) (N.cell p.2 a) with
  | some g => if g ∈ S then none else some ("behind" : Str)
  | none => none) := by
  unfold badW at h
  rw [Bool.or_eq_false_iff] at h
  unfold wordF
  rw [h.1, h.2]; rfl
theorem wordD_none {c d : Cell} (h : D.isN (wordD c d) = true) : badW c d = false ∧ wordD c d = .non := by
  have hb : badW c d = false := by rw [← word_isN, h]; rfl
  refine ⟨hb, ?_⟩
  unfold badW at hb
  rw [Bool.or_eq_false_iff] at hb
  unfold wordD
  rw [hb.1, hb.2]; rfl
theorem word_none {o : Option Str} (h : (!D.isN (optW o)) = false) : o = none := by
  cases o with
  | none => rfl
  | some w => cases h
theorem pair_val {m n : Nat} {a b : Int} : isPairB m n (.tup [.int a, .int b]) = ((decide (0 ≤ a) && decide (a < m)) && (decide (0 ≤ b) && decide (b < n))) := rfl
theorem optW_isN (o : Option Str) : D.isN (optW o) = o.isNone := by cases o <;> rfl
theorem fault_here {M N : Mach} {L : List (Nat × Nat)} {k a : Nat} {p : Nat × Nat} (hk : L[k]? = some p) (ha : a < M.asks) (h1 : ∀ (k' : Nat) (p' : Nat × Nat), k' < k → L[k']? = some p' → ∀ a', a' < M.asks → wordF M N L p' a' = none) (h2 : ∀ a', a' < a → wordF M N L p a' = none) (hn : (!D.isN (optW (wordF M N L p a))) = true) : FaultAt M N L (.tup [optW (wordF M N L p a), .int (k : Nat), .int (a : Nat)]) := by
  cases e : wordF M N L p a with
  | none => rw [e] at hn; cases hn
  | some w => exact .inr ⟨k, p, a, w, hk, ha, e, rfl, h1, h2⟩
section
variable {P : Program} {w : World} {K : PySem.W.Frag} {mg : Str → Option Value} {base : Heap}
theorem ok_whole16 (B : Src K mg "is_whole" s_is_whole ["thing"]) (T : Tx mg)  : KnG P w K mg base 1 "is_whole" ["thing"] S_whole16 := by
  refine kn_ofG B sc_is_whole (fun ds μ Φ h => by obtain ⟨_, rfl, _⟩ := h; rfl) fun f cdv A outer s H E grd hr ds μ Φ h => ?_
  obtain ⟨x, rfl, hx, k⟩ := h
  obtain ⟨t, ht, hk, hu1, hu2⟩ := hx.kind
  refine wSs_rho (ρ' := [_]) rfl ?_
  -- return isinstance(thing, int) and (not isinstance(thing, bool))
  refine w_cons (w_ret ?_)
  refine w_mono (Ψ := (fun d1 μ1 => d1 = .bl (isIntB x) ∧ μ1 = μ)) ?_ ?_
  · refine w_andV ?_
    refine w_callB (id := "isinstance") T.b_isinstance ?_
    refine wa_cons ?_
    refine w_name 0 rfl (.inl rfl) rfl ?_
    refine wa_cons ?_
    refine w_ty (n := "int") T.b_int ?_
    refine wa_nil ?_
    refine c_isiD hk (kit_int ht) ?_
    refine ⟨_, rfl, fun hb0 => ?_, fun hb0 => ?_⟩
    rotate_left
    · exact ⟨by rw [isIntB_no fun z => by have := hu2 z; subst this; simp at hb0], rfl⟩
    refine w_andV1 ?_
    refine w_notV ?_
    refine w_callB (id := "isinstance") T.b_isinstance ?_
    refine wa_cons ?_
    refine w_name 0 rfl (.inl rfl) rfl ?_
    refine wa_cons ?_
    refine w_ty (n := "bool") T.b_bool ?_
    refine wa_nil ?_
    refine c_isiD hk (kit_bool ht) ?_
    refine ⟨_, rfl, ?_⟩
    exact ⟨by
      have z := of_decide_eq_true hb0
      rcases z with rfl | rfl
      · obtain ⟨i, rfl⟩ := hu1 rfl; rfl
      · rw [isIntB_no fun z => absurd (hu2 z) (by decide)]; rfl, rfl⟩
  rintro d1 μ1 ⟨rfl, rfl⟩
  exact k
theorem ok_ispair16 (B : Src K mg "is_pair" s_is_pair ["machine", "other", "thing"]) (T : Tx mg) (G_is_whole : KnG P w K mg base 1 "is_whole" ["thing"] S_whole16) : KnG P w K mg base 2 "is_pair" ["machine", "other", "thing"] S_ispair16 := by
  refine kn_ofG B sc_is_pair (fun ds μ Φ h => by obtain ⟨_, _, _, rfl, _⟩ := h; rfl) fun f cdv A outer s H E grd hr ds μ Φ h => ?_
  obtain ⟨M, N, x, rfl, hx, k⟩ := h
  obtain ⟨t, ht, hk, hu1, hu2⟩ := hx.kind
  refine wSs_rho (ρ' := [_, _, _]) rfl ?_
  -- if not isinstance(thing, tuple) or len(thing) != 2 or (not is_whole(thing[0])) or (not is_whole(thing[1])):
  refine w_cons (w_if ?_)
  refine wt_b ((!pairK x)) ?_ ?_
  · refine wt_w ?_
    refine ww_or ?_
    refine wt_not ?_
    refine wt_val ?_
    refine w_callB (id := "isinstance") T.b_isinstance ?_
    refine wa_cons ?_
    refine w_name 2 rfl (.inl rfl) rfl ?_
    refine wa_cons ?_
    refine w_ty (n := "tuple") T.b_tuple ?_
    refine wa_nil ?_
    refine c_isiD hk (kit_tup ht) ?_
    refine ⟨_, rfl, ?_⟩
    refine ⟨fun hb0 => ?_, fun hb0 => ⟨(by rw [pairK_no fun z => by have := hu2 z; subst this; simp at hb0]; rfl), rfl⟩⟩
    refine ww_or ?_
    refine wt_cmp ?_
    refine w_callB (id := "len") T.b_len ?_
    refine wa_cons ?_
    refine w_name 2 rfl (.inl rfl) rfl ?_
    refine wa_nil ?_
    obtain ⟨xs, rfl, hxl, hxi⟩ := hu1 (by simpa using hb0)
    refine c_lenT ?_
    refine w_int ?_
    walk_at "NotEq"
    refine ⟨_, rfl, ?_⟩
    refine ⟨fun hb1 => ?_, fun hb1 => ⟨(by have z2 := beq_eq_false_iff_ne.mp (notT hb1); rw [pairK_len (by omega)]; rfl), rfl⟩⟩
    refine ww_or ?_
    refine wt_not ?_
    refine wt_val ?_
    refine w_callG G_is_whole hr ?_
    refine wa_cons ?_
    refine w_ix ?_
    refine w_name 2 rfl (.inl rfl) rfl ?_
    refine w_int ?_
    obtain ⟨y, z, rfl⟩ := two_of (xs := xs) (by have z2 := eq_of_beq (notF hb1); omega)
    refine ix_tupD 0 rfl rfl ?_
    refine wa_nil ?_
    refine ⟨y, rfl, hxi y (by simp), ?_⟩
    refine ⟨_, rfl, ?_⟩
    refine ⟨fun hb2 => ?_, fun hb2 => ⟨(by show true = !(isIntB y && isIntB z); rw [show isIntB y = false by simpa using hb2]; rfl), rfl⟩⟩
    refine ww_or1 ?_
    refine wt_not ?_
    refine wt_val ?_
    refine w_callG G_is_whole hr ?_
    refine wa_cons ?_
    refine w_ix ?_
    refine w_name 2 rfl (.inl rfl) rfl ?_
    refine w_int ?_
    first | refine ix_tupD 1 rfl rfl ?_ | refine ix_lstD 1 rfl rfl ?_ | refine ix_tupD 1 rfl (by assumption) ?_ | refine ix_lstD 1 rfl (by assumption) ?_ | refine ix_ptrD 0 rfl 1 rfl rfl ?_ | refine ix_ptrD 1 rfl 1 rfl rfl ?_ | refine ix_ptrD 2 rfl 1 rfl rfl ?_
    refine wa_nil ?_
    refine ⟨z, rfl, hxi z (by simp), ?_⟩
    refine ⟨_, rfl, ?_⟩
    exact ⟨(by show (!isIntB z) = !(isIntB y && isIntB z); rw [show isIntB y = true by simpa using hb2]; rfl), rfl⟩
  refine ⟨fun hb => ?_, fun hb => ?_⟩
  · -- return False
    refine w_cons (w_ret ?_)
    refine w_bl ?_
    rw [isPair_K (by simpa using hb)] at k
    exact k
  refine w_nil ?_
  -- return 0 <= thing[0] < len(machine[1]) and 0 <= thing[1] < len(other[1])
  refine w_cons (w_ret ?_)
  refine w_mono (Ψ := (fun d1 μ1 => d1 = .bl (isPairB M.rooms.length N.rooms.length x) ∧ μ1 = μ)) ?_ ?_
  · refine w_andV ?_
    refine w_chain ?_
    refine w_int ?_
    refine w_ix ?_
    refine w_name 2 rfl (.inl rfl) rfl ?_
    refine w_int ?_
    obtain ⟨a, b, rfl⟩ := pairK_yes (x := x) (by simpa using hb)
    refine ix_tupD 0 rfl rfl ?_
    walk_at "LtE"
    refine ⟨_, rfl, fun hc_ => ?_, fun hc_ => ?_⟩
    rotate_left
    · exact ⟨false, rfl, fun z => (nomatch z), fun _ => ⟨by rw [pair_val, hc_]; rfl, rfl⟩⟩
    refine w_callB (id := "len") T.b_len ?_
    refine wa_cons ?_
    refine w_ix ?_
    refine w_name 0 rfl (.inl rfl) rfl ?_
    refine w_int ?_
    first | refine ix_tupD 1 rfl rfl ?_ | refine ix_lstD 1 rfl rfl ?_ | refine ix_tupD 1 rfl (by assumption) ?_ | refine ix_lstD 1 rfl (by assumption) ?_ | refine ix_ptrD 0 rfl 1 rfl rfl ?_ | refine ix_ptrD 1 rfl 1 rfl rfl ?_ | refine ix_ptrD 2 rfl 1 rfl rfl ?_
    refine wa_nil ?_
    walk_at "c_len"
    try rw [List.length_map]
    walk_at "Lt"
    refine ⟨_, rfl, fun hb0 => ?_, fun hb0 => ?_⟩
    rotate_left
    · exact ⟨by rw [pair_val, hb0, Bool.and_false, Bool.false_and], rfl⟩
    refine w_andV1 ?_
    refine w_chain ?_
    refine w_int ?_
    refine w_ix ?_
    refine w_name 2 rfl (.inl rfl) rfl ?_
    refine w_int ?_
    first | refine ix_tupD 1 rfl rfl ?_ | refine ix_lstD 1 rfl rfl ?_ | refine ix_tupD 1 rfl (by assumption) ?_ | refine ix_lstD 1 rfl (by assumption) ?_ | refine ix_ptrD 0 rfl 1 rfl rfl ?_ | refine ix_ptrD 1 rfl 1 rfl rfl ?_ | refine ix_ptrD 2 rfl 1 rfl rfl ?_
    walk_at "LtE"
    refine ⟨_, rfl, fun hc_ => ?_, fun hc_ => ?_⟩
    rotate_left
    · exact ⟨by rw [pair_val, hc_, Bool.false_and, Bool.and_false], rfl⟩
    refine w_callB (id := "len") T.b_len ?_
    refine wa_cons ?_
    refine w_ix ?_
    refine w_name 1 rfl (.inl rfl) rfl ?_
    refine w_int ?_
    first | refine ix_tupD 1 rfl rfl ?_ | refine ix_lstD 1 rfl rfl ?_ | refine ix_tupD 1 rfl (by assumption) ?_ | refine ix_lstD 1 rfl (by assumption) ?_ | refine ix_ptrD 0 rfl 1 rfl rfl ?_ | refine ix_ptrD 1 rfl 1 rfl rfl ?_ | refine ix_ptrD 2 rfl 1 rfl rfl ?_
    refine wa_nil ?_
    walk_at "c_len"
    try rw [List.length_map]
    walk_at "Lt"
    exact ⟨by rw [pair_val, hc_, hb0, show decide ((0 : Int) ≤ a) = true by assumption]; rfl, rfl⟩
  rintro d1 μ1 ⟨rfl, rfl⟩
  exact k
theorem ok_pword16 (B : Src K mg "pair_word" s_pair_word ["machine", "other", "there", "here", "ask"]) (T : Tx mg) (G_cells_word : KnG P w K mg base 1 "cells_word" ["cell", "beside"] S_word) : KnG P w K mg base 2 "pair_word" ["machine", "other", "there", "here", "ask"] S_pword16 := by
  refine kn_ofG B sc_pair_word (fun ds μ Φ h => by obtain ⟨_, _, _, _, _, _, _, rfl, _⟩ := h; rfl) fun f cdv A outer s H E grd hr ds μ Φ h => ?_
  obtain ⟨M, N, S, q, iq, p, a, rfl, hq, hM, hN, hma, hp, ha, k⟩ := h
  have hu := hu_of hr.r
  obtain ⟨g1, g2, g3⟩ := mach_at hM hp.1 ha
  obtain ⟨g4, g5, g6⟩ := mach_at hN hp.2 (show a < N.asks by rw [← hma]; exact ha)
  refine wSs_rho (ρ' := [_, _, _, _, _, _, _, _]) rfl ?_
  -- cell = machine[1][here[0]][ask]
  refine w_cons (w_set 5 sc_pair_word.nd rfl (.inl rfl) (.inl rfl) ?_)
  refine w_ix ?_
  refine w_ix ?_
  refine w_ix ?_
  refine w_name 0 rfl (.inl rfl) rfl ?_
  refine w_int ?_
  first | refine ix_tupD 1 rfl rfl ?_ | refine ix_lstD 1 rfl rfl ?_ | refine ix_tupD 1 rfl (by assumption) ?_ | refine ix_lstD 1 rfl (by assumption) ?_ | refine ix_ptrD 0 rfl 1 rfl rfl ?_ | refine ix_ptrD 1 rfl 1 rfl rfl ?_ | refine ix_ptrD 2 rfl 1 rfl rfl ?_
  refine w_ix ?_
  refine w_name 3 rfl (.inl rfl) rfl ?_
  refine w_int ?_
  first | refine ix_tupD 0 rfl rfl ?_ | refine ix_lstD 0 rfl rfl ?_ | refine ix_tupD 0 rfl (by assumption) ?_ | refine ix_lstD 0 rfl (by assumption) ?_ | refine ix_ptrD 0 rfl 0 rfl rfl ?_ | refine ix_ptrD 1 rfl 0 rfl rfl ?_ | refine ix_ptrD 2 rfl 0 rfl rfl ?_
  refine ix_tupD p.1 rfl g1 ?_
  refine w_name 4 rfl (.inl rfl) rfl ?_
  refine ix_tupD a rfl g2 ?_
  -- beside = other[1][here[1]][ask]
  refine w_cons (w_set 6 sc_pair_word.nd rfl (.inl rfl) (.inl rfl) ?_)
  refine w_ix ?_
  refine w_ix ?_
  refine w_ix ?_
  refine w_name 1 rfl (.inl rfl) rfl ?_
  refine w_int ?_
  first | refine ix_tupD 1 rfl rfl ?_ | refine ix_lstD 1 rfl rfl ?_ | refine ix_tupD 1 rfl (by assumption) ?_ | refine ix_lstD 1 rfl (by assumption) ?_ | refine ix_ptrD 0 rfl 1 rfl rfl ?_ | refine ix_ptrD 1 rfl 1 rfl rfl ?_ | refine ix_ptrD 2 rfl 1 rfl rfl ?_
  refine w_ix ?_
  refine w_name 3 rfl (.inl rfl) rfl ?_
  refine w_int ?_
  first | refine ix_tupD 1 rfl rfl ?_ | refine ix_lstD 1 rfl rfl ?_ | refine ix_tupD 1 rfl (by assumption) ?_ | refine ix_lstD 1 rfl (by assumption) ?_ | refine ix_ptrD 0 rfl 1 rfl rfl ?_ | refine ix_ptrD 1 rfl 1 rfl rfl ?_ | refine ix_ptrD 2 rfl 1 rfl rfl ?_
  refine ix_tupD p.2 rfl g4 ?_
  refine w_name 4 rfl (.inl rfl) rfl ?_
  refine ix_tupD a rfl g5 ?_
  -- word = cells_word(cell, beside)
  refine w_cons (w_set 7 sc_pair_word.nd rfl (.inl rfl) (.inl rfl) ?_)
  refine w_callG G_cells_word hr ?_
  refine wa_cons ?_
  refine w_name 5 rfl (.inl rfl) rfl ?_
  refine wa_cons ?_
  refine w_name 6 rfl (.inl rfl) rfl ?_
  refine wa_nil ?_
  refine ⟨_, _, rfl, ?_⟩
  -- if word is None and cell[0] is not None and ((cell[0], beside[0]) not in there):
  refine w_cons (w_if ?_)
  refine wt_mono (Ψ := (fun b μ1 => μ1 = μ ∧ (b = true → wordF M N S p a = some ("behind" : Str)) ∧ (b = false → optW (wordF M N S p a) = wordD (M.cell p.1 a) (N.cell p.2 a)))) ?_ ?_
  · refine wt_w ?_
    refine ww_and ?_
    refine wt_cmp ?_
    refine w_name 7 rfl (.inl rfl) rfl ?_
    refine w_non ?_
    refine o_isN ?_
    refine ⟨_, rfl, ?_⟩
    refine ⟨fun hb0 => ?_, fun hb0 => ?_⟩
    rotate_left
    · exact ⟨rfl, fun z => (nomatch z), fun _ => wordF_bad (by rw [← word_isN, hb0]; rfl)⟩
    refine ww_and ?_
    refine wt_cmp ?_
    refine w_ix ?_
    refine w_name 5 rfl (.inl rfl) rfl ?_
    refine w_int ?_
    first | refine ix_tupD 0 rfl rfl ?_ | refine ix_lstD 0 rfl rfl ?_ | refine ix_tupD 0 rfl (by assumption) ?_ | refine ix_lstD 0 rfl (by assumption) ?_ | refine ix_ptrD 0 rfl 0 rfl rfl ?_ | refine ix_ptrD 1 rfl 0 rfl rfl ?_ | refine ix_ptrD 2 rfl 0 rfl rfl ?_
    refine w_non ?_
    have hb9 := wordD_none hb0
    refine o_notN ?_
    refine ⟨_, rfl, ?_⟩
    refine ⟨fun hb1 => ?_, fun hb1 => ?_⟩
    rotate_left
    · exact ⟨rfl, fun z => (nomatch z), fun _ => by rw [hb9.2, wordF_good hb9.1]; unfold nextW; rw [isN_none (x := (M.cell p.1 a).1) (by simpa using hb1)]; rfl⟩
    refine ww_and1 ?_
    refine wt_tnin hu ?_
    refine w_tup ?_
    refine wa_cons ?_
    refine w_ix ?_
    refine w_name 5 rfl (.inl rfl) rfl ?_
    refine w_int ?_
    first | refine ix_tupD 0 rfl rfl ?_ | refine ix_lstD 0 rfl rfl ?_ | refine ix_tupD 0 rfl (by assumption) ?_ | refine ix_lstD 0 rfl (by assumption) ?_ | refine ix_ptrD 0 rfl 0 rfl rfl ?_ | refine ix_ptrD 1 rfl 0 rfl rfl ?_ | refine ix_ptrD 2 rfl 0 rfl rfl ?_
    refine wa_cons ?_
    refine w_ix ?_
    refine w_name 6 rfl (.inl rfl) rfl ?_
    refine w_int ?_
    first | refine ix_tupD 0 rfl rfl ?_ | refine ix_lstD 0 rfl rfl ?_ | refine ix_tupD 0 rfl (by assumption) ?_ | refine ix_lstD 0 rfl (by assumption) ?_ | refine ix_ptrD 0 rfl 0 rfl rfl ?_ | refine ix_ptrD 1 rfl 0 rfl rfl ?_ | refine ix_ptrD 2 rfl 0 rfl rfl ?_
    refine wa_nil ?_
    refine ⟨by simp, ?_⟩
    refine w_name 2 rfl (.inl rfl) rfl ?_
    obtain ⟨x, hx⟩ := notN_some hb1
    obtain ⟨y, hy⟩ : ∃ y, (N.cell p.2 a).1 = some y := by
      have hb' := hb9.1
      unfold badW goesB at hb'
      rw [hx] at hb'
      cases e1 : (N.cell p.2 a).1 with
      | none => rw [e1] at hb'; simp at hb'
      | some y => exact ⟨y, rfl⟩
    have hnx : nextW (M.cell p.1 a) (N.cell p.2 a) = some (x, y) := by unfold nextW; rw [hx, hy]
    have hwf : wordF M N S p a = (if (x, y) ∈ S then none else some ("behind" : Str)) := by rw [wordF_good hb9.1, hnx]
    refine ⟨q, iq, _, pk2 (x, y), rfl, by rw [hx, hy]; rfl, hq, ?_⟩
    rw [metT_in]
    refine ⟨rfl, fun z => ?_, fun z => ?_⟩
    · rw [hwf, if_neg (by simpa using z)]
    · rw [hwf, if_pos (by simpa using z), hb9.2]; rfl
  rintro b μ1 ⟨rfl, hb1, hb2⟩
  refine ⟨fun hb => ?_, fun hb => ?_⟩
  · -- return 'behind'
    refine w_cons (w_ret ?_)
    refine w_str ?_
    rw [hb1 hb] at k
    exact k
  refine w_nil ?_
  -- return word
  refine w_cons (w_ret ?_)
  refine w_name 7 rfl (.inl rfl) rfl ?_
  rw [hb2 hb] at k
  exact k
theorem ok_pfaultL (B : Src K mg "pairs_fault" s_pairs_fault ["machine", "other", "thing"]) (T : Tx mg) (G_need_alike : KnG P w K mg base 1 "need_alike" ["machine", "other"] S_alike) (G_is_pair : KnG P w K mg base 2 "is_pair" ["machine", "other", "thing"] S_ispair16) (G_pair_word : KnG P w K mg base 2 "pair_word" ["machine", "other", "there", "here", "ask"] S_pword16) : KnG P w K mg base 3 "pairs_fault" ["machine", "other", "thing"] S_pfaultL := by
  refine kn_ofG B sc_pairs_fault (fun ds μ Φ h => by obtain ⟨_, _, _, _, rfl, _⟩ := h; rfl) fun f cdv A outer s H E grd hr ds μ Φ h => ?_
  obtain ⟨M, N, x, o, rfl, hM, hN, hma, hx, kq⟩ := h
  have hu := hu_of hr.r
  have ha4 := hM.a4
  obtain ⟨t, ht, hk, hu1, hu2⟩ := hx.kind
  refine wSs_rho (ρ' := [_, _, _, _, _, _, _, _]) rfl ?_
  -- need_alike(machine, other)
  refine w_cons (w_expr ?_)
  refine w_callG G_need_alike hr ?_
  refine wa_cons ?_
  refine w_name 0 rfl (.inr (.inl rfl)) rfl ?_
  refine wa_cons ?_
  refine w_name 1 rfl (.inr (.inl rfl)) rfl ?_
  refine wa_nil ?_
  refine ⟨M, N, rfl, hma, ?_⟩
  -- if not isinstance(thing, list) or not all([is_pair(machine, other, here) for here in thing]):
  refine w_cons (w_if ?_)
  refine wt_b ((!goodO M.rooms.length N.rooms.length o)) ?_ ?_
  · refine wt_w ?_
    refine ww_or ?_
    refine wt_not ?_
    refine wt_val ?_
    refine w_callB (id := "isinstance") T.b_isinstance ?_
    refine wa_cons ?_
    refine w_name 2 rfl (.inl rfl) rfl ?_
    refine wa_cons ?_
    refine w_ty (n := "list") T.b_list ?_
    refine wa_nil ?_
    refine c_isiD hk (kit_lst ht) ?_
    refine ⟨_, rfl, ?_⟩
    refine ⟨fun hb0 => ?_, fun hb0 => ⟨(by rw [hu2 fun z => by subst z; simp at hb0]; rfl), rfl⟩⟩
    refine ww_or1 ?_
    refine wt_not ?_
    refine wt_val ?_
    refine w_callB (id := "all") T.b_all ?_
    refine wa_cons ?_
    -- comp [is_pair(machine, other, here) for here in thing]
    refine w_fz0 (w_lcM (own := [("here", 3)]) (.one 3) (by decide) rfl sc_pairs_fault.nd (blkOk_by (N := N_pairs_fault) (sc := defScope s_pairs_fault) (by decide +kernel)) (fun _ _ _ _ _ => pg_name (i := 3) sc_pairs_fault.nd rfl (by first | exact .inl rfl | exact .inr rfl)) ?_)
    refine lcW_of ?_
    obtain ⟨ds, rfl, rfl, hdl, hde⟩ := hu1 (by simpa using hb0)
    refine wi_lst ?_
    refine w_name 2 rfl (.inl rfl) rfl ?_
    refine ⟨_, rfl, ?_⟩
    rw [← List.map_id ds]
    refine lcq_map (ds) _ ((fun y => D.bl (isPairB M.rooms.length N.rooms.length y))) rfl (by first | omega | (simp only [List.length_map, List.length_range]; omega) | (simp; omega)) ?_ ?_
    · intro p_here ihere here hhere
      refine ⟨[_, _, _, _, _, _, _, _], rfl, fun _ _ _ _ _ => ?_⟩
      refine w_callG G_is_pair hr ?_
      refine wa_cons ?_
      refine w_name 0 rfl (.inr (.inl rfl)) rfl ?_
      refine wa_cons ?_
      refine w_name 1 rfl (.inr (.inl rfl)) rfl ?_
      refine wa_cons ?_
      refine w_name 3 rfl (.inl rfl) rfl ?_
      refine wa_nil ?_
      refine ⟨M, N, here, rfl, (hde here (List.mem_of_getElem? hhere)).sub (List.sublist_cons_self _ _), ?_⟩
      exact ⟨rfl, rfl⟩
    intro p_c
    refine ⟨_, _, _, rfl, rfl, ?_⟩
    refine wa_nil ?_
    rw [show ds.map (fun y => D.bl (isPairB M.rooms.length N.rooms.length y)) = (ds.map (isPairB M.rooms.length N.rooms.length)).map D.bl from by rw [List.map_map]; rfl]
    refine c_allL ?_
    refine ⟨_, rfl, ?_⟩
    exact ⟨(by rw [List.all_map]; show (!ds.all _) = !((List.map id ds).all _); rw [List.map_id]; rfl), rfl⟩
  refine ⟨fun hb => ?_, fun hb => ?_⟩
  · -- return ('shape',)
    refine w_cons (w_ret (w_dr ?_))
    refine w_tup ?_
    refine wa_cons ?_
    refine w_str ?_
    refine wa_nil ?_
    refine ⟨by simp, ?_⟩
    refine ⟨_, List.Sublist.refl _, kq _ ?_⟩
    cases o with
    | none => rfl
    | some ds => exact .inl ⟨by simpa [goodO] using hb, rfl⟩
  refine w_nil ?_
  -- there = {}
  refine w_cons (w_set 4 sc_pairs_fault.nd rfl (.inl rfl) (.inl rfl) ?_)
  refine w_dnewT fun q => ?_
  obtain ⟨ds, L, rfl, rfl, rfl, hdl, hin⟩ : ∃ (ds : List D) (L : List (Nat × Nat)), x = .lst ds ∧ o = some ds ∧ ds = L.map natP ∧ ds.length ≤ 100000 ∧ ∀ p ∈ L, InP M N p := by
    by_cases hl9 : t = "list"
    · obtain ⟨ds, rfl, rfl, hdl, _⟩ := hu1 hl9
      obtain ⟨L, rfl, hL⟩ := pairs_yes (ds := ds) (by simpa [goodO] using hb)
      exact ⟨_, L, rfl, rfl, rfl, hdl, hL⟩
    · rw [hu2 hl9] at hb; cases hb
  rw [List.length_map] at hdl
  -- for here in thing:
  refine w_cons (w_forV [3] ?_ PassesOwn.never rfl)
  refine wi_lst ?_
  refine w_name 2 rfl (.inl rfl) rfl ?_
  refine ⟨_, rfl, ?_⟩
  skip
  refine ⟨_, fun i vs μ' => ∃ (S : List (Nat × Nat)) (w3 : Option D), (∀ p, p ∈ S ↔ p ∈ L.take i) ∧ (S.length ≤ i) ∧ vs = [w3] ∧ (q, .dt (metT S)) :: μ = μ', (by first | exact nats_len | exact nats2_len | exact enumD_len.trans (List.length_map _) | exact enumD_len | exact List.length_map _ | exact rfl | simp), ⟨[], _, (fun p => by rw [List.take_zero]), (Nat.le_refl 0), rfl, rfl⟩, ?_, ?_⟩
  · rintro ihere x vs μ' hx ⟨S, w3, hS, hSl, rfl, rfl⟩
    refine wG_rho (ρ' := [_, _, _, _, _, _, _, _]) rfl ?_
    obtain ⟨here, hhere, rfl⟩ := map_get' hx
    refine wg_name 3 sc_pairs_fault.nd rfl (.inl rfl) (.inl rfl) ?_
    -- there[here] = True
    refine w_cons (w_tput hu ?_)
    refine w_bl ?_
    refine w_name 4 rfl (.inl rfl) rfl ?_
    refine w_name 3 rfl (.inl rfl) rfl ?_
    have hil := lt_of_get hhere
    obtain ⟨S', hS', hSl', hput⟩ := metT_next hS hSl hhere
    refine ⟨q, 0, _, pk2 here, rfl, rfl, rfl, by unfold metT; rw [List.length_map]; omega, ?_⟩
    rw [hput]
    refine w_nil ?_
    exact ⟨[_], rfl, ⟨S', _, hS', hSl', rfl, rfl⟩⟩
  rintro vs μ' ⟨S, w3, hS, hSl, rfl, rfl⟩
  refine wSs_rho (ρ' := [_, _, _, _, _, _, _, _]) rfl ?_
  rw [List.take_of_length_le (Nat.le_refl _)] at hS
  -- if (0, 0) not in there:
  refine w_cons (w_if ?_)
  refine wt_tnin hu ?_
  refine w_tup ?_
  refine wa_cons ?_
  refine w_int ?_
  refine wa_cons ?_
  refine w_int ?_
  refine wa_nil ?_
  refine ⟨by simp, ?_⟩
  refine w_name 4 rfl (.inl rfl) rfl ?_
  refine ⟨q, 0, _, pk2 (0, 0), rfl, rfl, rfl, ?_⟩
  rw [metT_in]
  refine ⟨fun hb => ?_, fun hb => ?_⟩
  · -- return ('begin',)
    refine w_cons (w_ret (w_dr ?_))
    refine w_tup ?_
    refine wa_cons ?_
    refine w_str ?_
    refine wa_nil ?_
    refine ⟨by simp, ?_⟩
    exact ⟨_, List.sublist_cons_self _ _, kq _ (.inr ⟨L, rfl, hin, .inl ⟨(fun z => by rw [decide_eq_true ((hS _).mpr z)] at hb; cases hb), rfl⟩⟩)⟩
  refine w_nil ?_
  -- for k, here in enumerate(thing):
  refine w_cons (w_forV [5, 3, 6, 7] ?_ PassesOwn.never rfl)
  refine wi_enumL T.b_enumerate ?_
  refine w_name 2 rfl (.inl rfl) rfl ?_
  refine ⟨_, rfl, ?_⟩
  refine ⟨_, fun i vs μ' => ∃  (w5 w3 w6 w7 : Option D), (∀ (k' : Nat) (p' : Nat × Nat), k' < i → L[k']? = some p' → ∀ a', a' < M.asks → wordF M N L p' a' = none) ∧ vs = [w5, w3, w6, w7] ∧ (q, .dt (metT S)) :: μ = μ', (by first | exact nats_len | exact nats2_len | exact enumD_len.trans (List.length_map _) | exact enumD_len | exact List.length_map _ | exact rfl | simp), ⟨_, _, _, _, (fun k' p' hk' => absurd hk' (Nat.not_lt_zero _)), rfl, rfl⟩, ?_, ?_⟩
  · rintro k x vs μ' hx ⟨w5, w3, w6, w7, hH, rfl, rfl⟩
    refine wG_rho (ρ' := [_, _, _, _, _, _, _, _]) rfl ?_
    obtain ⟨here, hhere, rfl⟩ := enum_get' hx
    first | refine wg_tup rfl rfl ?_ | refine wg_lst rfl rfl ?_
    refine wgs_cons ?_
    refine wg_name 5 sc_pairs_fault.nd rfl (.inl rfl) (.inl rfl) ?_
    refine wgs_cons ?_
    refine wg_name 3 sc_pairs_fault.nd rfl (.inl rfl) (.inl rfl) ?_
    refine wgs_nil ?_
    -- for ask in range(machine[0]):
    refine w_cons (w_forV [6, 7] ?_ PassesOwn.never rfl)
    refine wi_rngN T.b_range ?_
    refine w_ix ?_
    refine w_name 0 rfl (.inr (.inl rfl)) rfl ?_
    refine w_int ?_
    first | refine ix_tupD 0 rfl rfl ?_ | refine ix_lstD 0 rfl rfl ?_ | refine ix_tupD 0 rfl (by assumption) ?_ | refine ix_lstD 0 rfl (by assumption) ?_ | refine ix_ptrD 0 rfl 0 rfl rfl ?_ | refine ix_ptrD 1 rfl 0 rfl rfl ?_ | refine ix_ptrD 2 rfl 0 rfl rfl ?_
    refine ⟨_, by rfl, by omega, ?_⟩
    refine ⟨_, fun i vs μ' => ∃  (w6 w7 : Option D), (∀ a, a < i → wordF M N L here a = none) ∧ vs = [w6, w7] ∧ (q, .dt (metT S)) :: μ = μ', (by first | exact nats_len | exact nats2_len | exact enumD_len.trans (List.length_map _) | exact enumD_len | exact List.length_map _ | exact rfl | simp), ⟨_, _, (fun a h => absurd h (Nat.not_lt_zero _)), rfl, rfl⟩, ?_, ?_⟩
    · rintro ask x vs μ' hx ⟨w6, w7, hA, rfl, rfl⟩
      refine wG_rho (ρ' := [_, _, _, _, _, _, _, _]) rfl ?_
      obtain ⟨hask, rfl⟩ := nats_get hx
      refine wg_name 6 sc_pairs_fault.nd rfl (.inl rfl) (.inl rfl) ?_
      -- word = pair_word(machine, other, there, here, ask)
      refine w_cons (w_set 7 sc_pairs_fault.nd rfl (.inl rfl) (.inl rfl) ?_)
      refine w_callG G_pair_word hr ?_
      refine wa_cons ?_
      refine w_name 0 rfl (.inr (.inl rfl)) rfl ?_
      refine wa_cons ?_
      refine w_name 1 rfl (.inr (.inl rfl)) rfl ?_
      refine wa_cons ?_
      refine w_name 4 rfl (.inl rfl) rfl ?_
      refine wa_cons ?_
      refine w_name 3 rfl (.inl rfl) rfl ?_
      refine wa_cons ?_
      refine w_name 6 rfl (.inl rfl) rfl ?_
      refine wa_nil ?_
      refine ⟨M, N, S, q, 0, here, ask, rfl, rfl, hM, hN, hma, hin here (List.mem_of_getElem? hhere), hask, ?_⟩
      rw [wordF_congr hS]
      -- if word is not None:
      refine w_cons (w_if ?_)
      refine wt_cmp ?_
      refine w_name 7 rfl (.inl rfl) rfl ?_
      refine w_non ?_
      refine o_notN ?_
      refine ⟨_, rfl, ?_⟩
      have hb00 := hb
      refine ⟨fun hb => ?_, fun hb => ?_⟩
      · -- return (word, k, ask)
        refine w_cons (w_ret (w_dr ?_))
        refine w_tup ?_
        refine wa_cons ?_
        refine w_name 7 rfl (.inl rfl) rfl ?_
        refine wa_cons ?_
        refine w_name 5 rfl (.inl rfl) rfl ?_
        refine wa_cons ?_
        refine w_name 6 rfl (.inl rfl) rfl ?_
        refine wa_nil ?_
        refine ⟨by simp, ?_⟩
        exact ⟨_, List.sublist_cons_self _ _, kq _ (.inr ⟨L, rfl, hin, .inr ⟨(hS _).mp (by simpa using hb00), fault_here hhere hask hH hA hb⟩⟩)⟩
      refine w_nil ?_
      refine w_nil ?_
      have hthis := word_none hb
      exact ⟨[_, _], rfl, ⟨_, _, (fun a haa => if e1 : a = ask then e1 ▸ hthis else hA a (by omega)), rfl, rfl⟩⟩
    rintro vs μ' ⟨w6, w7, hA, rfl, rfl⟩
    refine wSs_rho (ρ' := [_, _, _, _, _, _, _, _]) rfl ?_
    refine w_nil ?_
    have hthis : ∀ (k' : Nat) (p' : Nat × Nat), k' < k + 1 → L[k']? = some p' → ∀ a', a' < M.asks → wordF M N L p' a' = none := fun k' p' hk' hp' => by
      by_cases e : k' = k
      · subst e; rw [hhere] at hp'; cases hp'; exact hA
      · exact hH k' p' (by omega) hp'
    exact ⟨[_, _, _, _], rfl, ⟨_, _, _, _, hthis, rfl, rfl⟩⟩
  rintro vs μ' ⟨w5, w3, w6, w7, hH, rfl, rfl⟩
  refine wSs_rho (ρ' := [_, _, _, _, _, _, _, _]) rfl ?_
  -- return None
  refine w_cons (w_ret (w_dr ?_))
  refine w_non ?_
  exact ⟨_, List.sublist_cons_self _ _, kq .non (.inr ⟨L, rfl, hin, .inr ⟨(hS _).mp (by simpa using hb), .inl ⟨rfl, fun k p hk => hH k p (lt_of_get hk) hk⟩⟩⟩)⟩
end
end L16

namespace L16
open PySem PySem.Spec L2 Oc
open Evl (Ex)
local macro_rules | `(tactic| walk_at "s") => `(tactic| first | assumption | omega | decide | (simp only [] at *; omega))
local macro_rules | `(tactic| walk_at "Add") => `(tactic| first | refine o_addN ?_ | refine o_add ?_ | refine o_addS (by walk_at "s") ?_ | refine o_addT (by walk_at "s") ?_ | refine o_addL (by walk_at "s") ?_)
local macro_rules | `(tactic| walk_at "Sub") => `(tactic| refine o_sub ?_)
local macro_rules | `(tactic| walk_at "Mult") => `(tactic| refine o_mul (by walk_at "s") ?_)
local macro_rules | `(tactic| walk_at "Mod") => `(tactic| first | refine o_modN (by walk_at "s") ?_ | refine o_mod (by walk_at "s") ?_)
local macro_rules | `(tactic| walk_at "FloorDiv") => `(tactic| first | refine o_divN (by walk_at "s") ?_ | refine o_div (by walk_at "s") ?_)
local macro_rules | `(tactic| walk_at "Pow") => `(tactic| refine o_pow (by walk_at "s") ?_)
local macro_rules | `(tactic| walk_at "LShift") => `(tactic| refine o_shl (by walk_at "s") ?_)
local macro_rules | `(tactic| walk_at "RShift") => `(tactic| refine o_shr (by walk_at "s") ?_)
local macro_rules | `(tactic| walk_at "BitAnd") => `(tactic| refine o_band ?_)
local macro_rules | `(tactic| walk_at "BitXor") => `(tactic| refine o_bxor ?_)
local macro_rules | `(tactic| walk_at "BitOr") => `(tactic| refine o_bor ?_)
local macro_rules | `(tactic| walk_at "Lt") => `(tactic| refine o_lt ?_)
local macro_rules | `(tactic| walk_at "LtE") => `(tactic| refine o_le ?_)
local macro_rules | `(tactic| walk_at "Gt") => `(tactic| refine o_gt ?_)
local macro_rules | `(tactic| walk_at "GtE") => `(tactic| refine o_ge ?_)
local macro_rules | `(tactic| walk_at "Eq") => `(tactic| refine o_eq (by rfl) ?_)
local macro_rules | `(tactic| walk_at "NotEq") => `(tactic| refine o_ne (by rfl) ?_)
local macro_rules | `(tactic| walk_at "Is") => `(tactic| refine o_isN ?_)
local macro_rules | `(tactic| walk_at "IsNot") => `(tactic| refine o_notN ?_)
local macro_rules | `(tactic| walk_at "In") => `(tactic| refine o_in (by first | exact .inl rfl | exact .inr (.inl rfl) | exact .inr (.inr rfl)) (by rfl) (by rfl) ?_)
local macro_rules | `(tactic| walk_at "NotIn") => `(tactic| refine o_nin (by first | exact .inl rfl | exact .inr (.inl rfl) | exact .inr (.inr rfl)) (by rfl) (by rfl) ?_)
local macro_rules | `(tactic| walk_at "c_abs") => `(tactic| refine c_abs ?_)
local macro_rules | `(tactic| walk_at "c_len") => `(tactic| first | refine c_lenL ?_ | refine c_lenC ?_ | refine c_lenT ?_ | refine c_lenS (by walk_at "s") ?_ | refine c_lenP 0 (by first | assumption | rfl) ?_)
local macro_rules | `(tactic| walk_at "c_str") => `(tactic| refine c_str (by walk_at "s") ?_)
local macro_rules | `(tactic| walk_at "c_isinstance") => `(tactic| refine c_isi rfl (by rfl) ?_)
local macro_rules | `(tactic| walk_at "sl") => `(tactic| first | refine sd_tup ?_ | refine sd_lst ?_)
local macro_rules | `(tactic| walk_at "c_tuple") => `(tactic| first | refine c_tupL ?_ | refine c_tupP 0 (by first | assumption | rfl) ?_ | refine c_tupT ?_)
local macro_rules | `(tactic| walk_at "c_int") => `(tactic| first | refine c_intB ?_)
local macro_rules | `(tactic| walk_at "USub") => `(tactic| refine u_neg ?_)
local macro_rules | `(tactic| walk_at "pen") => `(tactic| first | assumption | exact get_set (by assumption) | exact get_set (get_set (by assumption)) | exact get_here | (apply get_cons; walk_at "pen") | (apply get_app; walk_at "pen"))
local macro_rules | `(tactic| walk_at "mu") => `(tactic| simp only [List.set_cons_succ, List.set_set, List.set_cons_zero])
section
variable {P : Program} {w : World} {K : PySem.W.Frag} {mg : Str → Option Value} {base : Heap}
theorem ok_pfaultP (B : Src K mg "pairs_fault" s_pairs_fault ["machine", "other", "thing"]) (T : Tx mg) (G_need_alike : KnG P w K mg base 1 "need_alike" ["machine", "other"] S_alike) (G_is_pair : KnG P w K mg base 2 "is_pair" ["machine", "other", "thing"] S_ispair16) (G_pair_word : KnG P w K mg base 2 "pair_word" ["machine", "other", "there", "here", "ask"] S_pword16) : KnG P w K mg base 3 "pairs_fault" ["machine", "other", "thing"] S_pfaultP := by
  refine kn_ofG B sc_pairs_fault (fun ds μ Φ h => by obtain ⟨_, _, _, _, _, rfl, _⟩ := h; rfl) fun f cdv A outer s H E grd hr ds μ Φ h => ?_
  obtain ⟨M, N, qt, ys, μ0, rfl, rfl, hM, hN, hma, hyl, hye, kq⟩ := h
  have hu := hu_of hr.r
  have ha4 := hM.a4
  refine wSs_rho (ρ' := [_, _, _, _, _, _, _, _]) rfl ?_
  -- need_alike(machine, other)
  refine w_cons (w_expr ?_)
  refine w_callG G_need_alike hr ?_
  refine wa_cons ?_
  refine w_name 0 rfl (.inr (.inl rfl)) rfl ?_
  refine wa_cons ?_
  refine w_name 1 rfl (.inr (.inl rfl)) rfl ?_
  refine wa_nil ?_
  refine ⟨M, N, rfl, hma, ?_⟩
  -- if not isinstance(thing, list) or not all([is_pair(machine, other, here) for here in thing]):
  refine w_cons (w_if ?_)
  refine wt_b ((!ys.all (isPairB M.rooms.length N.rooms.length))) ?_ ?_
  · refine wt_w ?_
    refine ww_or ?_
    refine wt_not ?_
    refine wt_val ?_
    refine w_callB (id := "isinstance") T.b_isinstance ?_
    refine wa_cons ?_
    refine w_name 2 rfl (.inl rfl) rfl ?_
    refine wa_cons ?_
    refine w_ty (n := "list") T.b_list ?_
    refine wa_nil ?_
    refine c_isiP 0 rfl (by rfl) ?_
    refine ⟨_, rfl, ?_⟩
    refine ⟨fun hb0 => ?_, fun hb0 => ⟨(by cases hb0), rfl⟩⟩
    refine ww_or1 ?_
    refine wt_not ?_
    refine wt_val ?_
    refine w_callB (id := "all") T.b_all ?_
    refine wa_cons ?_
    -- comp [is_pair(machine, other, here) for here in thing]
    refine w_fz0 (w_lcMP (own := [("here", 3)]) (.one 3) (by decide) rfl sc_pairs_fault.nd (blkOk_by (N := N_pairs_fault) (sc := defScope s_pairs_fault) (by decide +kernel)) (fun _ _ _ _ _ => pg_name (i := 3) sc_pairs_fault.nd rfl (by first | exact .inl rfl | exact .inr rfl)) ?_)
    refine lcWP_of ?_
    refine wi_ptr' ?_
    refine w_name 2 rfl (.inl rfl) rfl ?_
    refine ⟨_, rfl, ?_⟩
    refine ⟨0, _, rfl, ?_⟩
    refine lcq_mapP (ys) _ ((fun y => D.bl (isPairB M.rooms.length N.rooms.length y))) (List.map_id ys).symm (by first | omega | (simp only [List.length_map, List.length_range]; omega) | (simp; omega)) ?_ ?_
    · intro p_here ihere here hhere
      refine ⟨[_, _, _, _, _, _, _, _], rfl, fun _ _ _ _ _ => ?_⟩
      refine w_callG G_is_pair hr ?_
      refine wa_cons ?_
      refine w_name 0 rfl (.inr (.inl rfl)) rfl ?_
      refine wa_cons ?_
      refine w_name 1 rfl (.inr (.inl rfl)) rfl ?_
      refine wa_cons ?_
      refine w_name 3 rfl (.inl rfl) rfl ?_
      refine wa_nil ?_
      refine ⟨M, N, here, rfl, (hye here (List.mem_of_getElem? hhere)).sub (.cons _ (List.sublist_cons_self _ _)), ?_⟩
      exact ⟨rfl, rfl⟩
    intro p_c
    refine ⟨_, _, _, rfl, rfl, ?_⟩
    refine wa_nil ?_
    rw [show ys.map (fun y => D.bl (isPairB M.rooms.length N.rooms.length y)) = (ys.map (isPairB M.rooms.length N.rooms.length)).map D.bl from by rw [List.map_map]; rfl]
    refine c_allL ?_
    refine ⟨_, rfl, ?_⟩
    exact ⟨(by rw [List.all_map]; rfl), rfl⟩
  refine ⟨fun hb => ?_, fun hb => ?_⟩
  · -- return ('shape',)
    refine w_cons (w_ret (w_dr ?_))
    refine w_tup ?_
    refine wa_cons ?_
    refine w_str ?_
    refine wa_nil ?_
    refine ⟨by simp, ?_⟩
    exact ⟨_, List.Sublist.refl _, kq _ (.inl ⟨by simpa using hb, rfl⟩)⟩
  refine w_nil ?_
  -- there = {}
  refine w_cons (w_set 4 sc_pairs_fault.nd rfl (.inl rfl) (.inl rfl) ?_)
  refine w_dnewT fun q => ?_
  obtain ⟨L, rfl, hin⟩ : ∃ L : List (Nat × Nat), ys = L.map natP ∧ ∀ p ∈ L, InP M N p := pairs_yes (by simpa using hb)
  rw [List.length_map] at hyl
  -- for here in thing:
  refine w_cons (w_forPV [3] ?_ PassesOwn.never rfl)
  refine wi_ptr ?_
  refine w_name 2 rfl (.inl rfl) rfl ?_
  refine ⟨_, _, rfl, ⟨1, rfl⟩, ?_⟩
  skip
  refine ⟨_, fun i vs μ' => ∃ (S : List (Nat × Nat)) (w3 : Option D), (∀ p, p ∈ S ↔ p ∈ L.take i) ∧ (S.length ≤ i) ∧ vs = [w3] ∧ (q, .dt (metT S)) :: (qt, .lst (L.map natP)) :: μ0 = μ', (by first | exact nats_len | exact nats2_len | exact enumD_len.trans (List.length_map _) | exact enumD_len | exact List.length_map _ | exact rfl | simp), ⟨[], _, (fun p => by rw [List.take_zero]), (Nat.le_refl 0), rfl, rfl⟩, (fun _ _ _ h => by obtain ⟨_, _, _, _, _, rfl⟩ := h; exact ⟨1, rfl⟩), ?_, ?_⟩
  · rintro ihere x vs μ' hx ⟨S, w3, hS, hSl, rfl, rfl⟩
    refine wG_rho (ρ' := [_, _, _, _, _, _, _, _]) rfl ?_
    obtain ⟨here, hhere, rfl⟩ := map_get' hx
    refine wg_name 3 sc_pairs_fault.nd rfl (.inl rfl) (.inl rfl) ?_
    -- there[here] = True
    refine w_cons (w_tput hu ?_)
    refine w_bl ?_
    refine w_name 4 rfl (.inl rfl) rfl ?_
    refine w_name 3 rfl (.inl rfl) rfl ?_
    have hil := lt_of_get hhere
    obtain ⟨S', hS', hSl', hput⟩ := metT_next hS hSl hhere
    refine ⟨q, 0, _, pk2 here, rfl, rfl, rfl, by unfold metT; rw [List.length_map]; omega, ?_⟩
    rw [hput]
    refine w_nil ?_
    exact ⟨[_], rfl, ⟨S', _, hS', hSl', rfl, rfl⟩⟩
  rintro vs μ' ⟨S, w3, hS, hSl, rfl, rfl⟩
  refine wSs_rho (ρ' := [_, _, _, _, _, _, _, _]) rfl ?_
  rw [List.take_of_length_le (Nat.le_refl _)] at hS
  -- if (0, 0) not in there:
  refine w_cons (w_if ?_)
  refine wt_tnin hu ?_
  refine w_tup ?_
  refine wa_cons ?_
  refine w_int ?_
  refine wa_cons ?_
  refine w_int ?_
  refine wa_nil ?_
  refine ⟨by simp, ?_⟩
  refine w_name 4 rfl (.inl rfl) rfl ?_
  refine ⟨q, 0, _, pk2 (0, 0), rfl, rfl, rfl, ?_⟩
  rw [metT_in]
  refine ⟨fun hb => ?_, fun hb => ?_⟩
  · -- return ('begin',)
    refine w_cons (w_ret (w_dr ?_))
    refine w_tup ?_
    refine wa_cons ?_
    refine w_str ?_
    refine wa_nil ?_
    refine ⟨by simp, ?_⟩
    exact ⟨_, List.sublist_cons_self _ _, kq _ (.inr ⟨L, rfl, hin, .inl ⟨(fun z => by rw [decide_eq_true ((hS _).mpr z)] at hb; cases hb), rfl⟩⟩)⟩
  refine w_nil ?_
  -- for k, here in enumerate(thing):
  refine w_cons (w_forPV [5, 3, 6, 7] ?_ PassesOwn.never rfl)
  refine wi_enumP T.b_enumerate ?_
  refine w_name 2 rfl (.inl rfl) rfl ?_
  refine ⟨_, _, rfl, ⟨1, rfl⟩, ?_⟩
  refine ⟨_, fun i vs μ' => ∃  (w5 w3 w6 w7 : Option D), (∀ (k' : Nat) (p' : Nat × Nat), k' < i → L[k']? = some p' → ∀ a', a' < M.asks → wordF M N L p' a' = none) ∧ vs = [w5, w3, w6, w7] ∧ (q, .dt (metT S)) :: (qt, .lst (L.map natP)) :: μ0 = μ', (by first | exact nats_len | exact nats2_len | exact enumD_len.trans (List.length_map _) | exact enumD_len | exact List.length_map _ | exact rfl | simp), ⟨_, _, _, _, (fun k' p' hk' => absurd hk' (Nat.not_lt_zero _)), rfl, rfl⟩, (fun _ _ _ h => by obtain ⟨_, _, _, _, _, _, rfl⟩ := h; exact ⟨1, rfl⟩), ?_, ?_⟩
  · rintro k x vs μ' hx ⟨w5, w3, w6, w7, hH, rfl, rfl⟩
    refine wG_rho (ρ' := [_, _, _, _, _, _, _, _]) rfl ?_
    obtain ⟨here, hhere, rfl⟩ := enum_get' hx
    first | refine wg_tup rfl rfl ?_ | refine wg_lst rfl rfl ?_
    refine wgs_cons ?_
    refine wg_name 5 sc_pairs_fault.nd rfl (.inl rfl) (.inl rfl) ?_
    refine wgs_cons ?_
    refine wg_name 3 sc_pairs_fault.nd rfl (.inl rfl) (.inl rfl) ?_
    refine wgs_nil ?_
    -- for ask in range(machine[0]):
    refine w_cons (w_forV [6, 7] ?_ PassesOwn.never rfl)
    refine wi_rngN T.b_range ?_
    refine w_ix ?_
    refine w_name 0 rfl (.inr (.inl rfl)) rfl ?_
    refine w_int ?_
    first | refine ix_tupD 0 rfl rfl ?_ | refine ix_lstD 0 rfl rfl ?_ | refine ix_tupD 0 rfl (by assumption) ?_ | refine ix_lstD 0 rfl (by assumption) ?_ | refine ix_ptrD 0 rfl 0 rfl rfl ?_ | refine ix_ptrD 1 rfl 0 rfl rfl ?_ | refine ix_ptrD 2 rfl 0 rfl rfl ?_
    refine ⟨_, by rfl, by omega, ?_⟩
    refine ⟨_, fun i vs μ' => ∃  (w6 w7 : Option D), (∀ a, a < i → wordF M N L here a = none) ∧ vs = [w6, w7] ∧ (q, .dt (metT S)) :: (qt, .lst (L.map natP)) :: μ0 = μ', (by first | exact nats_len | exact nats2_len | exact enumD_len.trans (List.length_map _) | exact enumD_len | exact List.length_map _ | exact rfl | simp), ⟨_, _, (fun a h => absurd h (Nat.not_lt_zero _)), rfl, rfl⟩, ?_, ?_⟩
    · rintro ask x vs μ' hx ⟨w6, w7, hA, rfl, rfl⟩
      refine wG_rho (ρ' := [_, _, _, _, _, _, _, _]) rfl ?_
      obtain ⟨hask, rfl⟩ := nats_get hx
      refine wg_name 6 sc_pairs_fault.nd rfl (.inl rfl) (.inl rfl) ?_
      -- word = pair_word(machine, other, there, here, ask)
      refine w_cons (w_set 7 sc_pairs_fault.nd rfl (.inl rfl) (.inl rfl) ?_)
      refine w_callG G_pair_word hr ?_
      refine wa_cons ?_
      refine w_name 0 rfl (.inr (.inl rfl)) rfl ?_
      refine wa_cons ?_
      refine w_name 1 rfl (.inr (.inl rfl)) rfl ?_
      refine wa_cons ?_
      refine w_name 4 rfl (.inl rfl) rfl ?_
      refine wa_cons ?_
      refine w_name 3 rfl (.inl rfl) rfl ?_
      refine wa_cons ?_
      refine w_name 6 rfl (.inl rfl) rfl ?_
      refine wa_nil ?_
      refine ⟨M, N, S, q, 0, here, ask, rfl, rfl, hM, hN, hma, hin here (List.mem_of_getElem? hhere), hask, ?_⟩
      rw [wordF_congr hS]
      -- if word is not None:
      refine w_cons (w_if ?_)
      refine wt_cmp ?_
      refine w_name 7 rfl (.inl rfl) rfl ?_
      refine w_non ?_
      refine o_notN ?_
      refine ⟨_, rfl, ?_⟩
      have hb00 := hb
      refine ⟨fun hb => ?_, fun hb => ?_⟩
      · -- return (word, k, ask)
        refine w_cons (w_ret (w_dr ?_))
        refine w_tup ?_
        refine wa_cons ?_
        refine w_name 7 rfl (.inl rfl) rfl ?_
        refine wa_cons ?_
        refine w_name 5 rfl (.inl rfl) rfl ?_
        refine wa_cons ?_
        refine w_name 6 rfl (.inl rfl) rfl ?_
        refine wa_nil ?_
        refine ⟨by simp, ?_⟩
        exact ⟨_, List.sublist_cons_self _ _, kq _ (.inr ⟨L, rfl, hin, .inr ⟨(hS _).mp (by simpa using hb00), fault_here hhere hask hH hA hb⟩⟩)⟩
      refine w_nil ?_
      refine w_nil ?_
      have hthis := word_none hb
      exact ⟨[_, _], rfl, ⟨_, _, (fun a haa => if e1 : a = ask then e1 ▸ hthis else hA a (by omega)), rfl, rfl⟩⟩
    rintro vs μ' ⟨w6, w7, hA, rfl, rfl⟩
    refine wSs_rho (ρ' := [_, _, _, _, _, _, _, _]) rfl ?_
    refine w_nil ?_
    have hthis : ∀ (k' : Nat) (p' : Nat × Nat), k' < k + 1 → L[k']? = some p' → ∀ a', a' < M.asks → wordF M N L p' a' = none := fun k' p' hk' hp' => by
      by_cases e : k' = k
      · subst e; rw [hhere] at hp'; cases hp'; exact hA
      · exact hH k' p' (by omega) hp'
    exact ⟨[_, _, _, _], rfl, ⟨_, _, _, _, hthis, rfl, rfl⟩⟩
  rintro vs μ' ⟨w5, w3, w6, w7, hH, rfl, rfl⟩
  refine wSs_rho (ρ' := [_, _, _, _, _, _, _, _]) rfl ?_
  -- return None
  refine w_cons (w_ret (w_dr ?_))
  refine w_non ?_
  exact ⟨_, List.sublist_cons_self _ _, kq .non (.inr ⟨L, rfl, hin, .inr ⟨(hS _).mp (by simpa using hb), .inl ⟨rfl, fun k p hk => hH k p (lt_of_get hk) hk⟩⟩⟩)⟩
end
end L16

namespace L16
open PySem PySem.Spec L2 Oc
open Evl (Ex)
local macro_rules | `(tactic| walk_at "s") => `(tactic| first | assumption | omega | decide | (simp only [] at *; omega))
local macro_rules | `(tactic| walk_at "Add") => `(tactic| first | refine o_addN ?_ | refine o_add ?_ | refine o_addS (by walk_at "s") ?_ | refine o_addT (by walk_at "s") ?_ | refine o_addL (by walk_at "s") ?_)
local macro_rules | `(tactic| walk_at "Sub") => `(tactic| refine o_sub ?_)
local macro_rules | `(tactic| walk_at "Mult") => `(tactic| refine o_mul (by walk_at "s") ?_)
local macro_rules | `(tactic| walk_at "Mod") => `(tactic| first | refine o_modN (by walk_at "s") ?_ | refine o_mod (by walk_at "s") ?_)
local macro_rules | `(tactic| walk_at "FloorDiv") => `(tactic| first | refine o_divN (by walk_at "s") ?_ | refine o_div (by walk_at "s") ?_)
local macro_rules | `(tactic| walk_at "Pow") => `(tactic| refine o_pow (by walk_at "s") ?_)
local macro_rules | `(tactic| walk_at "LShift") => `(tactic| refine o_shl (by walk_at "s") ?_)
local macro_rules | `(tactic| walk_at "RShift") => `(tactic| refine o_shr (by walk_at "s") ?_)
local macro_rules | `(tactic| walk_at "BitAnd") => `(tactic| refine o_band ?_)
local macro_rules | `(tactic| walk_at "BitXor") => `(tactic| refine o_bxor ?_)
local macro_rules | `(tactic| walk_at "BitOr") => `(tactic| refine o_bor ?_)
local macro_rules | `(tactic| walk_at "Lt") => `(tactic| refine o_lt ?_)
local macro_rules | `(tactic| walk_at "LtE") => `(tactic| refine o_le ?_)
local macro_rules | `(tactic| walk_at "Gt") => `(tactic| refine o_gt ?_)
local macro_rules | `(tactic| walk_at "GtE") => `(tactic| refine o_ge ?_)
local macro_rules | `(tactic| walk_at "Eq") => `(tactic| refine o_eq (by rfl) ?_)
local macro_rules | `(tactic| walk_at "NotEq") => `(tactic| refine o_ne (by rfl) ?_)
local macro_rules | `(tactic| walk_at "Is") => `(tactic| refine o_isN ?_)
local macro_rules | `(tactic| walk_at "IsNot") => `(tactic| refine o_notN ?_)
local macro_rules | `(tactic| walk_at "In") => `(tactic| refine o_in (by first | exact .inl rfl | exact .inr (.inl rfl) | exact .inr (.inr rfl)) (by rfl) (by rfl) ?_)
local macro_rules | `(tactic| walk_at "NotIn") => `(tactic| refine o_nin (by first | exact .inl rfl | exact .inr (.inl rfl) | exact .inr (.inr rfl)) (by rfl) (by rfl) ?_)
local macro_rules | `(tactic| walk_at "c_abs") => `(tactic| refine c_abs ?_)
local macro_rules | `(tactic| walk_at "c_len") => `(tactic| first | refine c_lenL ?_ | refine c_lenC ?_ | refine c_lenT ?_ | refine c_lenS (by walk_at "s") ?_ | refine c_lenP 0 (by first | assumption | rfl) ?_)
local macro_rules | `(tactic| walk_at "c_str") => `(tactic| refine c_str (by walk_at "s") ?_)
local macro_rules | `(tactic| walk_at "c_isinstance") => `(tactic| refine c_isi rfl (by rfl) ?_)
local macro_rules | `(tactic| walk_at "sl") => `(tactic| first | refine sd_tup ?_ | refine sd_lst ?_)
local macro_rules | `(tactic| walk_at "c_tuple") => `(tactic| first | refine c_tupL ?_ | refine c_tupP 0 (by first | assumption | rfl) ?_ | refine c_tupT ?_)
local macro_rules | `(tactic| walk_at "c_int") => `(tactic| first | refine c_intB ?_)
local macro_rules | `(tactic| walk_at "USub") => `(tactic| refine u_neg ?_)
local macro_rules | `(tactic| walk_at "pen") => `(tactic| first | assumption | exact get_set (by assumption) | exact get_set (get_set (by assumption)) | exact get_here | (apply get_cons; walk_at "pen") | (apply get_app; walk_at "pen"))
local macro_rules | `(tactic| walk_at "mu") => `(tactic| simp only [List.set_cons_succ, List.set_set, List.set_cons_zero])
/-! ### the law's own look at pairs -/
def S_lispair16 : FS := fun ds μ Φ => ∃ (x : D) (m n : Nat), ds = [x, .int m, .int n] ∧ Elem μ x ∧ Φ (.bl (isPairB m n x)) μ
theorem okB_int {m : Nat} {a : Int} : okB m (.int a) = (decide (0 ≤ a) && decide (a < m)) := rfl
theorem hneg {a : Int} (h : decide (-1 < a) = false) : decide (0 ≤ a) = false := decide_eq_false fun z => by have := of_decide_eq_false h; omega
theorem hpos {a : Int} (h : decide (-1 < a) = true) : decide (0 ≤ a) = true := decide_eq_true (by have := of_decide_eq_true h; omega)
theorem zip2_get {y z : D} {m n : Nat} {i : Nat} {x : D} (h : (zipD [y, z] [.int m, .int n])[i]? = some x) : ∃ (e : D) (b : Nat), ((i = 0 ∧ e = y ∧ b = m) ∨ (i = 1 ∧ e = z ∧ b = n)) ∧ x = .tup [e, .int b] := by
  match i, h with
  | 0, h => cases h; exact ⟨y, m, .inl ⟨rfl, rfl, rfl⟩, rfl⟩
  | 1, h => cases h; exact ⟨z, n, .inr ⟨rfl, rfl, rfl⟩, rfl⟩
  | _ + 2, h => cases h
theorem any_false {α : Type} (f : α → Bool) (l : List α) : ((l.map fun y => D.bl (f y)).any fun z => PyData.eqv z.py (D.bl false).py) = !l.all f := by
  induction l with
  | nil => rfl
  | cons a l ih =>
    rw [List.map_cons, List.any_cons, List.all_cons, ih, Bool.not_and]
    congr 1
    cases f a <;> simp [D.py, PyData.eqv]
theorem puts_met : ∀ (L S : List (Nat × Nat)), ∃ S', putsD (metT S) (L.map fun p => (pk2 p, D.bl true)) = metT S' ∧ ∀ g, g ∈ S' ↔ g ∈ S ∨ g ∈ L
  | [], S => ⟨S, rfl, fun g => by simp⟩
  | p :: L, S => by
    by_cases h : p ∈ S
    · obtain ⟨S', h1, h2⟩ := puts_met L S
      refine ⟨S', ?_, fun g => ?_⟩
      · show putsD (putD (metT S) (pk2 p) (.bl true)) _ = _
        rw [metT_same h]; exact h1
      · rw [h2 g, List.mem_cons]
        constructor
        · rintro (z | z)
          · exact .inl z
          · exact .inr (.inr z)
        · rintro (z | rfl | z)
          · exact .inl z
          · exact .inl h
          · exact .inr z
    · obtain ⟨S', h1, h2⟩ := puts_met L (S ++ [p])
      refine ⟨S', ?_, fun g => ?_⟩
      · show putsD (putD (metT S) (pk2 p) (.bl true)) _ = _
        rw [metT_put h]; exact h1
      · rw [h2 g, List.mem_append, List.mem_singleton, List.mem_cons, or_assoc]
theorem wordF_says {M N : Mach} {L : List (Nat × Nat)} {p : Nat × Nat} {a : Nat} (h : saysB (M.cell p.1 a) (N.cell p.2 a) = true) : wordF M N L p a = some ("says" : Str) := by unfold wordF; rw [if_pos h]
theorem wordF_goes {M N : Mach} {L : List (Nat × Nat)} {p : Nat × Nat} {a : Nat} (h0 : saysB (M.cell p.1 a) (N.cell p.2 a) = false) (h : goesB (M.cell p.1 a) (N.cell p.2 a) = true) : wordF M N L p a = some ("goes" : Str) := by unfold wordF; rw [h0, if_pos h]; rfl
theorem fault_w {M N : Mach} {L : List (Nat × Nat)} {k a : Nat} {p : Nat × Nat} {w : Str} (hk : L[k]? = some p) (ha : a < M.asks) (h1 : ∀ (k' : Nat) (p' : Nat × Nat), k' < k → L[k']? = some p' → ∀ a', a' < M.asks → wordF M N L p' a' = none) (h2 : ∀ a', a' < a → wordF M N L p a' = none) (hn : wordF M N L p a = some w) : FaultAt M N L (.tup [.str w, .int (k : Nat), .int (a : Nat)]) :=
  .inr ⟨k, p, a, w, hk, ha, hn, rfl, h1, h2⟩
section
variable {P : Program} {w : World} {K : PySem.W.Frag} {mg : Str → Option Value} {base : Heap}
theorem ok_lispair16 (B : Src K mg "_law_is_pair" s__law_is_pair ["_law_thing", "_law_many", "_law_more"]) (T : Tx mg)  : KnG P w K mg base 1 "_law_is_pair" ["_law_thing", "_law_many", "_law_more"] S_lispair16 := by
  refine kn_ofG B sc__law_is_pair (fun ds μ Φ h => by obtain ⟨_, _, _, rfl, _⟩ := h; rfl) fun f cdv A outer s H E grd hr ds μ Φ h => ?_
  obtain ⟨x, m, n, rfl, hx, k⟩ := h
  obtain ⟨t, ht, hk, hu1, hu2⟩ := hx.kind
  refine wSs_rho (ρ' := [_, _, _, _, _]) rfl ?_
  -- if not isinstance(_law_thing, tuple) or len(_law_thing) != 2:
  refine w_cons (w_if ?_)
  refine wt_b ((!len2 x)) ?_ ?_
  · refine wt_w ?_
    refine ww_or ?_
    refine wt_not ?_
    refine wt_val ?_
    refine w_callB (id := "isinstance") T.b_isinstance ?_
    refine wa_cons ?_
    refine w_name 0 rfl (.inl rfl) rfl ?_
    refine wa_cons ?_
    refine w_ty (n := "tuple") T.b_tuple ?_
    refine wa_nil ?_
    refine c_isiD hk (kit_tup ht) ?_
    refine ⟨_, rfl, ?_⟩
    refine ⟨fun hb0 => ?_, fun hb0 => ⟨(by rw [len2_no fun z => by have := hu2 z; subst this; simp at hb0]; rfl), rfl⟩⟩
    refine ww_or1 ?_
    refine wt_cmp ?_
    refine w_callB (id := "len") T.b_len ?_
    refine wa_cons ?_
    refine w_name 0 rfl (.inl rfl) rfl ?_
    refine wa_nil ?_
    obtain ⟨xs, rfl, hxl, hxi⟩ := hu1 (by simpa using hb0)
    refine c_lenT ?_
    refine w_int ?_
    walk_at "NotEq"
    refine ⟨_, rfl, ?_⟩
    exact ⟨(by rw [len2_len]; show (!((xs.length : Int) == 2)) = _; congr 1; rw [Bool.eq_iff_iff, beq_iff_eq, decide_eq_true_iff]; omega), rfl⟩
  refine ⟨fun hb => ?_, fun hb => ?_⟩
  rotate_left
  obtain ⟨y, z, rfl⟩ := len2_yes (x := x) (notF hb)
  obtain ⟨xs, exs, _, hxi⟩ := hu1 (hu2 ⟨_, rfl⟩)
  cases exs
  rotate_left
  · -- return False
    refine w_cons (w_ret ?_)
    refine w_bl ?_
    rw [isPair_len (notT hb)] at k
    exact k
  refine w_nil ?_
  -- for _law_room, _law_most in zip(_law_thing, (_law_many, _law_more)):
  refine w_cons (w_forV [3, 4] ?_ PassesOwn.never rfl)
  refine wi_zip T.b_zip ?_
  refine w_name 0 rfl (.inl rfl) rfl ?_
  refine w_tup ?_
  refine wa_cons ?_
  refine w_name 1 rfl (.inl rfl) rfl ?_
  refine wa_cons ?_
  refine w_name 2 rfl (.inl rfl) rfl ?_
  refine wa_nil ?_
  refine ⟨by simp, ?_⟩
  refine ⟨_, _, by first | exact .inl ⟨rfl, rfl⟩ | exact .inr ⟨rfl, rfl⟩, ?_⟩
  refine ⟨_, fun i vs μ' => ∃  (w3 w4 : Option D), ((1 ≤ i → okB m y = true) ∧ (2 ≤ i → okB n z = true)) ∧ vs = [w3, w4] ∧ μ = μ', (by first | exact nats_len | exact nats2_len | exact enumD_len.trans (List.length_map _) | exact enumD_len | exact List.length_map _ | exact rfl | simp), ⟨_, _, ⟨(fun h => absurd h (by decide)), (fun h => absurd h (by decide))⟩, rfl, rfl⟩, ?_, ?_⟩
  · rintro ie x vs μ' hx ⟨w3, w4, hI, rfl, rfl⟩
    refine wG_rho (ρ' := [_, _, _, _, _]) rfl ?_
    obtain ⟨e, b, heb, rfl⟩ := zip2_get hx
    have hei : Item μ e := by
      rcases heb with ⟨_, rfl, _⟩ | ⟨_, rfl, _⟩
      · exact hxi _ (by simp)
      · exact hxi _ (by simp)
    obtain ⟨t2, ht2, hk2, hv1, hv2⟩ := hei.kind
    first | refine wg_tup rfl rfl ?_ | refine wg_lst rfl rfl ?_
    refine wgs_cons ?_
    refine wg_name 3 sc__law_is_pair.nd rfl (.inl rfl) (.inl rfl) ?_
    refine wgs_cons ?_
    refine wg_name 4 sc__law_is_pair.nd rfl (.inl rfl) (.inl rfl) ?_
    refine wgs_nil ?_
    -- if not isinstance(_law_room, int) or isinstance(_law_room, bool) or (not -1 < _law_room < _law_most):
    refine w_cons (w_if ?_)
    refine wt_b ((!okB b e)) ?_ ?_
    · refine wt_w ?_
      refine ww_or ?_
      refine wt_not ?_
      refine wt_val ?_
      refine w_callB (id := "isinstance") T.b_isinstance ?_
      refine wa_cons ?_
      refine w_name 3 rfl (.inl rfl) rfl ?_
      refine wa_cons ?_
      refine w_ty (n := "int") T.b_int ?_
      refine wa_nil ?_
      refine c_isiD hk2 (kit_int ht2) ?_
      refine ⟨_, rfl, ?_⟩
      refine ⟨fun hb0 => ?_, fun hb0 => ⟨(by rw [okB_no fun z => by have := hv2 z; subst this; simp at hb0]; rfl), rfl⟩⟩
      refine ww_or ?_
      refine wt_val ?_
      refine w_callB (id := "isinstance") T.b_isinstance ?_
      refine wa_cons ?_
      refine w_name 3 rfl (.inl rfl) rfl ?_
      refine wa_cons ?_
      refine w_ty (n := "bool") T.b_bool ?_
      refine wa_nil ?_
      refine c_isiD hk2 (kit_bool ht2) ?_
      refine ⟨_, rfl, ?_⟩
      refine ⟨fun hb1 => ?_, fun hb1 => ⟨(by rw [okB_no fun z => by have := hv2 z; subst this; simp at hb1]; rfl), rfl⟩⟩
      refine ww_or1 ?_
      refine wt_not ?_
      refine wt_chain ?_
      refine w_un ?_
      refine w_int ?_
      walk_at "USub"
      refine w_name 3 rfl (.inl rfl) rfl ?_
      obtain ⟨a, rfl⟩ : ∃ a : Int, e = .int a := by
        rcases of_decide_eq_true (notF hb0) with z | z
        · exact hv1 z
        · rw [z] at hb1; exact absurd hb1 (by decide)
      walk_at "Lt"
      refine ⟨_, rfl, fun hc_ => ?_, fun hc_ => ?_⟩
      rotate_left
      · exact ⟨by rw [okB_int, hneg hc_]; rfl, rfl⟩
      refine w_name 4 rfl (.inl rfl) rfl ?_
      walk_at "Lt"
      refine ⟨_, rfl, ?_⟩
      exact ⟨(by rw [okB_int, hpos hc_, Bool.true_and]), rfl⟩
    refine ⟨fun hb => ?_, fun hb => ?_⟩
    · -- return False
      refine w_cons (w_ret ?_)
      refine w_bl ?_
      have hb9 := notT hb
      have hbad : isPairB m n (.tup [y, z]) = false := by
        show (okB m y && okB n z) = false
        rcases heb with ⟨_, rfl, rfl⟩ | ⟨_, rfl, rfl⟩
        · rw [hb9]; rfl
        · rw [hb9, Bool.and_false]
      rw [hbad] at k
      exact k
    refine w_nil ?_
    refine w_nil ?_
    have hb9 := notF hb
    have hI2 : (1 ≤ ie + 1 → okB m y = true) ∧ (2 ≤ ie + 1 → okB n z = true) := by
      rcases heb with ⟨rfl, rfl, rfl⟩ | ⟨rfl, rfl, rfl⟩
      · exact ⟨fun _ => hb9, fun h => absurd h (by decide)⟩
      · exact ⟨fun _ => hI.1 (by decide), fun _ => hb9⟩
    exact ⟨[_, _], rfl, ⟨_, _, hI2, rfl, rfl⟩⟩
  rintro vs μ' ⟨w3, w4, hI, rfl, rfl⟩
  refine wSs_rho (ρ' := [_, _, _, _, _]) rfl ?_
  -- return True
  refine w_cons (w_ret ?_)
  refine w_bl ?_
  have hgood : isPairB m n (.tup [y, z]) = true := by
    show (okB m y && okB n z) = true
    rw [hI.1 (Nat.le_succ 1), hI.2 (Nat.le_refl 2)]; rfl
  rw [hgood] at k
  exact k
end
end L16

namespace L16
open PySem PySem.Spec L2 Oc
open Evl (Ex)
local macro_rules | `(tactic| walk_at "s") => `(tactic| first | assumption | omega | decide | (simp only [] at *; omega))
local macro_rules | `(tactic| walk_at "Add") => `(tactic| first | refine o_addN ?_ | refine o_add ?_ | refine o_addS (by walk_at "s") ?_ | refine o_addT (by walk_at "s") ?_ | refine o_addL (by walk_at "s") ?_)
local macro_rules | `(tactic| walk_at "Sub") => `(tactic| refine o_sub ?_)
local macro_rules | `(tactic| walk_at "Mult") => `(tactic| refine o_mul (by walk_at "s") ?_)
local macro_rules | `(tactic| walk_at "Mod") => `(tactic| first | refine o_modN (by walk_at "s") ?_ | refine o_mod (by walk_at "s") ?_)
local macro_rules | `(tactic| walk_at "FloorDiv") => `(tactic| first | refine o_divN (by walk_at "s") ?_ | refine o_div (by walk_at "s") ?_)
local macro_rules | `(tactic| walk_at "Pow") => `(tactic| refine o_pow (by walk_at "s") ?_)
local macro_rules | `(tactic| walk_at "LShift") => `(tactic| refine o_shl (by walk_at "s") ?_)
local macro_rules | `(tactic| walk_at "RShift") => `(tactic| refine o_shr (by walk_at "s") ?_)
local macro_rules | `(tactic| walk_at "BitAnd") => `(tactic| refine o_band ?_)
local macro_rules | `(tactic| walk_at "BitXor") => `(tactic| refine o_bxor ?_)
local macro_rules | `(tactic| walk_at "BitOr") => `(tactic| refine o_bor ?_)
local macro_rules | `(tactic| walk_at "Lt") => `(tactic| refine o_lt ?_)
local macro_rules | `(tactic| walk_at "LtE") => `(tactic| refine o_le ?_)
local macro_rules | `(tactic| walk_at "Gt") => `(tactic| refine o_gt ?_)
local macro_rules | `(tactic| walk_at "GtE") => `(tactic| refine o_ge ?_)
local macro_rules | `(tactic| walk_at "Eq") => `(tactic| refine o_eq (by rfl) ?_)
local macro_rules | `(tactic| walk_at "NotEq") => `(tactic| refine o_ne (by rfl) ?_)
local macro_rules | `(tactic| walk_at "Is") => `(tactic| refine o_isN ?_)
local macro_rules | `(tactic| walk_at "IsNot") => `(tactic| refine o_notN ?_)
local macro_rules | `(tactic| walk_at "In") => `(tactic| refine o_in (by first | exact .inl rfl | exact .inr (.inl rfl) | exact .inr (.inr rfl)) (by rfl) (by rfl) ?_)
local macro_rules | `(tactic| walk_at "NotIn") => `(tactic| refine o_nin (by first | exact .inl rfl | exact .inr (.inl rfl) | exact .inr (.inr rfl)) (by rfl) (by rfl) ?_)
local macro_rules | `(tactic| walk_at "c_abs") => `(tactic| refine c_abs ?_)
local macro_rules | `(tactic| walk_at "c_len") => `(tactic| first | refine c_lenL ?_ | refine c_lenC ?_ | refine c_lenT ?_ | refine c_lenS (by walk_at "s") ?_ | refine c_lenP 0 (by first | assumption | rfl) ?_)
local macro_rules | `(tactic| walk_at "c_str") => `(tactic| refine c_str (by walk_at "s") ?_)
local macro_rules | `(tactic| walk_at "c_isinstance") => `(tactic| refine c_isi rfl (by rfl) ?_)
local macro_rules | `(tactic| walk_at "sl") => `(tactic| first | refine sd_tup ?_ | refine sd_lst ?_)
local macro_rules | `(tactic| walk_at "c_tuple") => `(tactic| first | refine c_tupL ?_ | refine c_tupP 0 (by first | assumption | rfl) ?_ | refine c_tupT ?_)
local macro_rules | `(tactic| walk_at "c_int") => `(tactic| first | refine c_intB ?_)
local macro_rules | `(tactic| walk_at "USub") => `(tactic| refine u_neg ?_)
local macro_rules | `(tactic| walk_at "pen") => `(tactic| first | assumption | exact get_set (by assumption) | exact get_set (get_set (by assumption)) | exact get_here | (apply get_cons; walk_at "pen") | (apply get_app; walk_at "pen"))
local macro_rules | `(tactic| walk_at "mu") => `(tactic| simp only [List.set_cons_succ, List.set_set, List.set_cons_zero])
/-! ### the law's fault of a list of pairs -/
def S_lfaultL : FS := fun ds μ Φ => ∃ (M N : Mach) (x : D) (o : Option (List D)), ds = [machD M, machD N, x] ∧ M.Ok 24 ∧ N.Ok 24 ∧ M.asks = N.asks ∧ StandsAs μ x o ∧ ∀ d, FaultO M N o d → Φ d μ
def S_lfaultP : FS := fun ds μ Φ => ∃ (M N : Mach) (q : Addr) (ys : List D) (μ0 : Mu), ds = [machD M, machD N, .ptr q] ∧ μ = (q, .lst ys) :: μ0 ∧ M.Ok 24 ∧ N.Ok 24 ∧ M.asks = N.asks ∧ ys.length ≤ 100000 ∧ (∀ y ∈ ys, Elem μ0 y) ∧ ∀ d, FaultL M N ys d → Φ d μ
theorem wordF_here {M N : Mach} {L S : List (Nat × Nat)} {p : Nat × Nat} {a x y : Nat} (hS : ∀ g, g ∈ S ↔ g ∈ L) (h0 : saysB (M.cell p.1 a) (N.cell p.2 a) = false) (h1 : goesB (M.cell p.1 a) (N.cell p.2 a) = false) (hx : (M.cell p.1 a).1 = some x) (hy : (N.cell p.2 a).1 = some y) : wordF M N L p a = if (x, y) ∈ S then none else some ("behind" : Str) := by
  rw [wordF_good (by unfold badW; rw [h0, h1]; rfl)]
  unfold nextW
  rw [hx, hy]
  show (if (x, y) ∈ L then none else _) = _
  by_cases h : (x, y) ∈ S
  · rw [if_pos h, if_pos ((hS _).mp h)]
  · rw [if_neg h, if_neg fun z => h ((hS _).mpr z)]
theorem wordF_open {M N : Mach} {L : List (Nat × Nat)} {p : Nat × Nat} {a : Nat} (h0 : saysB (M.cell p.1 a) (N.cell p.2 a) = false) (h1 : goesB (M.cell p.1 a) (N.cell p.2 a) = false) (hx : (M.cell p.1 a).1 = none) : wordF M N L p a = none := by
  rw [wordF_good (by unfold badW; rw [h0, h1]; rfl)]
  unfold nextW
  rw [hx]
section
variable {P : Program} {w : World} {K : PySem.W.Frag} {mg : Str → Option Value} {base : Heap}
theorem ok_lfaultL (B : Src K mg "_law_fault" s__law_fault ["_law_machine_here", "_law_other_here", "_law_thing"]) (T : Tx mg) (G__law_is_pair : KnG P w K mg base 1 "_law_is_pair" ["_law_thing", "_law_many", "_law_more"] S_lispair16) : KnG P w K mg base 2 "_law_fault" ["_law_machine_here", "_law_other_here", "_law_thing"] S_lfaultL := by
  refine kn_ofG B sc__law_fault (fun ds μ Φ h => by obtain ⟨_, _, _, _, rfl, _⟩ := h; rfl) fun f cdv A outer s H E grd hr ds μ Φ h => ?_
  obtain ⟨M, N, x, o, rfl, hM, hN, hma, hx, kq⟩ := h
  obtain ⟨t, ht, hk, hu1, hu2⟩ := hx.kind
  have hu := hu_of hr.r
  have ha4 := hM.a4
  refine wSs_rho (ρ' := [_, _, _, _, _, _, _, _, _, _, _]) rfl ?_
  -- if not isinstance(_law_thing, list):
  refine w_cons (w_if ?_)
  refine wt_not ?_
  refine wt_val ?_
  refine w_callB (id := "isinstance") T.b_isinstance ?_
  refine wa_cons ?_
  refine w_name 2 rfl (.inl rfl) rfl ?_
  refine wa_cons ?_
  refine w_ty (n := "list") T.b_list ?_
  refine wa_nil ?_
  refine c_isiD hk (kit_lst ht) ?_
  refine ⟨_, rfl, ?_⟩
  refine ⟨fun hb => ?_, fun hb => ?_⟩
  rotate_left
  obtain ⟨ys, rfl, rfl, hyl, hye⟩ := hu1 (by simpa using hb)
  rotate_left
  · -- return ('shape',)
    refine w_cons (w_ret (w_dr ?_))
    refine w_tup ?_
    refine wa_cons ?_
    refine w_str ?_
    refine wa_nil ?_
    refine ⟨by simp, ?_⟩
    rw [hu2 fun z => by subst z; simp at hb] at kq
    exact ⟨_, List.Sublist.refl _, kq _ rfl⟩
  refine w_nil ?_
  -- if False in [_law_is_pair(_law_pair, len(_law_machine_here[1]), len(_law_other_here[1])) for _law_pair in _law_thing]:
  refine w_cons (w_if ?_)
  refine wt_cmp ?_
  refine w_bl ?_
  -- comp [_law_is_pair(_law_pair, len(_law_machine_here[1]), len(_law_other_here[1])) for _law_pair in _law_thing]
  refine w_fz0 (w_lcM (own := [("_law_pair", 3)]) (.one 3) (by decide) rfl sc__law_fault.nd (blkOk_by (N := N__law_fault) (sc := defScope s__law_fault) (by decide +kernel)) (fun _ _ _ _ _ => pg_name (i := 3) sc__law_fault.nd rfl (by first | exact .inl rfl | exact .inr rfl)) ?_)
  refine lcW_of ?_
  refine wi_lst ?_
  refine w_name 2 rfl (.inl rfl) rfl ?_
  refine ⟨_, rfl, ?_⟩
  refine lcq_map (ys) _ ((fun y => D.bl (isPairB M.rooms.length N.rooms.length y))) (List.map_id ys).symm (by first | omega | (simp only [List.length_map, List.length_range]; omega) | (simp; omega)) ?_ ?_
  · intro p_pair ipair pair hpair
    refine ⟨[_, _, _, _, _, _, _, _, _, _, _], rfl, fun _ _ _ _ _ => ?_⟩
    refine w_callG G__law_is_pair hr ?_
    refine wa_cons ?_
    refine w_name 3 rfl (.inl rfl) rfl ?_
    refine wa_cons ?_
    refine w_callB (id := "len") T.b_len ?_
    refine wa_cons ?_
    refine w_ix ?_
    refine w_name 0 rfl (.inr (.inl rfl)) rfl ?_
    refine w_int ?_
    first | refine ix_tupD 1 rfl rfl ?_ | refine ix_lstD 1 rfl rfl ?_ | refine ix_tupD 1 rfl (by assumption) ?_ | refine ix_lstD 1 rfl (by assumption) ?_ | refine ix_ptrD 0 rfl 1 rfl rfl ?_ | refine ix_ptrD 1 rfl 1 rfl rfl ?_ | refine ix_ptrD 2 rfl 1 rfl rfl ?_
    refine wa_nil ?_
    walk_at "c_len"
    try rw [List.length_map]
    refine wa_cons ?_
    refine w_callB (id := "len") T.b_len ?_
    refine wa_cons ?_
    refine w_ix ?_
    refine w_name 1 rfl (.inr (.inl rfl)) rfl ?_
    refine w_int ?_
    first | refine ix_tupD 1 rfl rfl ?_ | refine ix_lstD 1 rfl rfl ?_ | refine ix_tupD 1 rfl (by assumption) ?_ | refine ix_lstD 1 rfl (by assumption) ?_ | refine ix_ptrD 0 rfl 1 rfl rfl ?_ | refine ix_ptrD 1 rfl 1 rfl rfl ?_ | refine ix_ptrD 2 rfl 1 rfl rfl ?_
    refine wa_nil ?_
    walk_at "c_len"
    try rw [List.length_map]
    refine wa_nil ?_
    refine ⟨pair, _, _, rfl, (hye pair (List.mem_of_getElem? hpair)).sub (List.sublist_cons_self _ _), ?_⟩
    exact ⟨rfl, rfl⟩
  intro p_c
  refine ⟨_, _, _, rfl, rfl, ?_⟩
  refine o_inLY hr.un65 (Ly.bl false) (Lys.map (n := 1) fun z _ => (Ly.bl _).mono (by decide)) ?_
  rw [any_false]
  refine ⟨_, rfl, ?_⟩
  refine ⟨fun hb => ?_, fun hb => ?_⟩
  rotate_left
  obtain ⟨L, rfl, hin⟩ : ∃ L : List (Nat × Nat), ys = L.map natP ∧ ∀ p ∈ L, InP M N p := pairs_yes (by simpa using hb)
  rw [List.length_map] at hyl
  rotate_left
  · -- return ('shape',)
    refine w_cons (w_ret (w_dr ?_))
    refine w_tup ?_
    refine wa_cons ?_
    refine w_str ?_
    refine wa_nil ?_
    refine ⟨by simp, ?_⟩
    exact ⟨_, List.Sublist.refl _, kq _ (.inl ⟨by simpa using hb, rfl⟩)⟩
  refine w_nil ?_
  -- _law_there = dict([(_law_pair, True) for _law_pair in _law_thing])
  refine w_cons (w_set 4 sc__law_fault.nd rfl (.inl rfl) (.inl rfl) ?_)
  refine w_callTy (T := "dict") T.b_dict ?_
  refine wa_cons ?_
  -- comp [(_law_pair, True) for _law_pair in _law_thing]
  refine w_fz0 (w_lcM (own := [("_law_pair", 3)]) (.one 3) (by decide) rfl sc__law_fault.nd (blkOk_by (N := N__law_fault) (sc := defScope s__law_fault) (by decide +kernel)) (fun _ _ _ _ _ => pg_name (i := 3) sc__law_fault.nd rfl (by first | exact .inl rfl | exact .inr rfl)) ?_)
  refine lcW_of ?_
  refine wi_lst ?_
  refine w_name 2 rfl (.inl rfl) rfl ?_
  refine ⟨_, rfl, ?_⟩
  refine lcq_map (L) _ ((fun p => D.tup [natP p, .bl true])) rfl (by first | omega | (simp only [List.length_map, List.length_range]; omega) | (simp; omega)) ?_ ?_
  · intro p_pair ipair pair hpair
    refine ⟨[_, _, _, _, _, _, _, _, _, _, _], rfl, fun _ _ _ _ _ => ?_⟩
    refine w_tup ?_
    refine wa_cons ?_
    refine w_name 3 rfl (.inl rfl) rfl ?_
    refine wa_cons ?_
    refine w_bl ?_
    refine wa_nil ?_
    refine ⟨by simp, ?_⟩
    exact ⟨rfl, rfl⟩
  intro p_c
  refine ⟨_, _, _, rfl, rfl, ?_⟩
  refine wa_nil ?_
  refine c_dictTR hr.units (kds := L.map fun p => (pk2 p, D.bl true)) (by rw [List.map_map]; rfl) fun q => ?_
  obtain ⟨S, hSe, hS⟩ := puts_met L []
  have hS : ∀ g, g ∈ S ↔ g ∈ L := fun g => by rw [hS g]; simp
  rw [show putsD [] (L.map fun p => (pk2 p, D.bl true)) = metT S from hSe]
  -- if (0, 0) not in _law_there:
  refine w_cons (w_if ?_)
  refine wt_tnin hu ?_
  refine w_tup ?_
  refine wa_cons ?_
  refine w_int ?_
  refine wa_cons ?_
  refine w_int ?_
  refine wa_nil ?_
  refine ⟨by simp, ?_⟩
  refine w_name 4 rfl (.inl rfl) rfl ?_
  refine ⟨q, 0, _, pk2 (0, 0), rfl, rfl, rfl, ?_⟩
  rw [metT_in]
  refine ⟨fun hb => ?_, fun hb00 => ?_⟩
  · -- return ('begin',)
    refine w_cons (w_ret (w_dr ?_))
    refine w_tup ?_
    refine wa_cons ?_
    refine w_str ?_
    refine wa_nil ?_
    refine ⟨by simp, ?_⟩
    exact ⟨_, List.sublist_cons_self _ _, kq _ (.inr ⟨L, rfl, hin, .inl ⟨(fun z => by rw [decide_eq_true ((hS _).mpr z)] at hb; cases hb), rfl⟩⟩)⟩
  refine w_nil ?_
  -- for _law_k, (_law_one, _law_two) in enumerate(_law_thing):
  refine w_cons (w_forV [5, 6, 7, 8, 9, 10] ?_ PassesOwn.never rfl)
  refine wi_enumL T.b_enumerate ?_
  refine w_name 2 rfl (.inl rfl) rfl ?_
  refine ⟨_, rfl, ?_⟩
  refine ⟨_, fun i vs μ' => ∃  (w5 w6 w7 w8 w9 w10 : Option D), (∀ (k' : Nat) (p' : Nat × Nat), k' < i → L[k']? = some p' → ∀ a', a' < M.asks → wordF M N L p' a' = none) ∧ vs = [w5, w6, w7, w8, w9, w10] ∧ (q, .dt (metT S)) :: μ = μ', (by first | exact nats_len | exact nats2_len | exact enumD_len.trans (List.length_map _) | exact enumD_len | exact List.length_map _ | exact rfl | simp), ⟨_, _, _, _, _, _, (fun k' p' hk' => absurd hk' (Nat.not_lt_zero _)), rfl, rfl⟩, ?_, ?_⟩
  · rintro k x vs μ' hx ⟨w5, w6, w7, w8, w9, w10, hH, rfl, rfl⟩
    refine wG_rho (ρ' := [_, _, _, _, _, _, _, _, _, _, _]) rfl ?_
    obtain ⟨e, he, rfl⟩ := enum_get' hx
    have hpi := hin e (List.mem_of_getElem? he)
    first | refine wg_tup rfl rfl ?_ | refine wg_lst rfl rfl ?_
    refine wgs_cons ?_
    refine wg_name 5 sc__law_fault.nd rfl (.inl rfl) (.inl rfl) ?_
    refine wgs_cons ?_
    first | refine wg_tup rfl rfl ?_ | refine wg_lst rfl rfl ?_
    refine wgs_cons ?_
    refine wg_name 6 sc__law_fault.nd rfl (.inl rfl) (.inl rfl) ?_
    refine wgs_cons ?_
    refine wg_name 7 sc__law_fault.nd rfl (.inl rfl) (.inl rfl) ?_
    refine wgs_nil ?_
    refine wgs_nil ?_
    -- for _law_ask in range(_law_machine_here[0]):
    refine w_cons (w_forV [8, 9, 10] ?_ PassesOwn.never rfl)
    refine wi_rngN T.b_range ?_
    refine w_ix ?_
    refine w_name 0 rfl (.inr (.inl rfl)) rfl ?_
    refine w_int ?_
    first | refine ix_tupD 0 rfl rfl ?_ | refine ix_lstD 0 rfl rfl ?_ | refine ix_tupD 0 rfl (by assumption) ?_ | refine ix_lstD 0 rfl (by assumption) ?_ | refine ix_ptrD 0 rfl 0 rfl rfl ?_ | refine ix_ptrD 1 rfl 0 rfl rfl ?_ | refine ix_ptrD 2 rfl 0 rfl rfl ?_
    refine ⟨_, by rfl, by omega, ?_⟩
    refine ⟨_, fun i vs μ' => ∃  (w8 w9 w10 : Option D), (∀ a, a < i → wordF M N L e a = none) ∧ vs = [w8, w9, w10] ∧ (q, .dt (metT S)) :: μ = μ', (by first | exact nats_len | exact nats2_len | exact enumD_len.trans (List.length_map _) | exact enumD_len | exact List.length_map _ | exact rfl | simp), ⟨_, _, _, (fun a h => absurd h (Nat.not_lt_zero _)), rfl, rfl⟩, ?_, ?_⟩
    · rintro ask x vs μ' hx ⟨w8, w9, w10, hA, rfl, rfl⟩
      refine wG_rho (ρ' := [_, _, _, _, _, _, _, _, _, _, _]) rfl ?_
      obtain ⟨hask, rfl⟩ := nats_get hx
      obtain ⟨g1, g2, g3⟩ := mach_at hM hpi.1 hask
      obtain ⟨g4, g5, g6⟩ := mach_at hN hpi.2 (show ask < N.asks by rw [← hma]; exact hask)
      refine wg_name 8 sc__law_fault.nd rfl (.inl rfl) (.inl rfl) ?_
      -- _law_cell_here = _law_machine_here[1][_law_one][_law_ask]
      refine w_cons (w_set 9 sc__law_fault.nd rfl (.inl rfl) (.inl rfl) ?_)
      refine w_ix ?_
      refine w_ix ?_
      refine w_ix ?_
      refine w_name 0 rfl (.inr (.inl rfl)) rfl ?_
      refine w_int ?_
      first | refine ix_tupD 1 rfl rfl ?_ | refine ix_lstD 1 rfl rfl ?_ | refine ix_tupD 1 rfl (by assumption) ?_ | refine ix_lstD 1 rfl (by assumption) ?_ | refine ix_ptrD 0 rfl 1 rfl rfl ?_ | refine ix_ptrD 1 rfl 1 rfl rfl ?_ | refine ix_ptrD 2 rfl 1 rfl rfl ?_
      refine w_name 6 rfl (.inl rfl) rfl ?_
      refine ix_tupD e.1 rfl g1 ?_
      refine w_name 8 rfl (.inl rfl) rfl ?_
      refine ix_tupD ask rfl g2 ?_
      -- _law_beside = _law_other_here[1][_law_two][_law_ask]
      refine w_cons (w_set 10 sc__law_fault.nd rfl (.inl rfl) (.inl rfl) ?_)
      refine w_ix ?_
      refine w_ix ?_
      refine w_ix ?_
      refine w_name 1 rfl (.inr (.inl rfl)) rfl ?_
      refine w_int ?_
      first | refine ix_tupD 1 rfl rfl ?_ | refine ix_lstD 1 rfl rfl ?_ | refine ix_tupD 1 rfl (by assumption) ?_ | refine ix_lstD 1 rfl (by assumption) ?_ | refine ix_ptrD 0 rfl 1 rfl rfl ?_ | refine ix_ptrD 1 rfl 1 rfl rfl ?_ | refine ix_ptrD 2 rfl 1 rfl rfl ?_
      refine w_name 7 rfl (.inl rfl) rfl ?_
      refine ix_tupD e.2 rfl g4 ?_
      refine w_name 8 rfl (.inl rfl) rfl ?_
      refine ix_tupD ask rfl g5 ?_
      -- if _law_cell_here[1] is not None and _law_beside[1] != _law_cell_here[1]:
      refine w_cons (w_if ?_)
      refine wt_b ((saysB (M.cell e.1 ask) (N.cell e.2 ask))) ?_ ?_
      · refine wt_w ?_
        refine ww_and ?_
        refine wt_cmp ?_
        refine w_ix ?_
        refine w_name 9 rfl (.inl rfl) rfl ?_
        refine w_int ?_
        first | refine ix_tupD 1 rfl rfl ?_ | refine ix_lstD 1 rfl rfl ?_ | refine ix_tupD 1 rfl (by assumption) ?_ | refine ix_lstD 1 rfl (by assumption) ?_ | refine ix_ptrD 0 rfl 1 rfl rfl ?_ | refine ix_ptrD 1 rfl 1 rfl rfl ?_ | refine ix_ptrD 2 rfl 1 rfl rfl ?_
        refine w_non ?_
        refine o_notN ?_
        rw [isn_some]
        refine ⟨_, rfl, ?_⟩
        refine ⟨fun hb0 => ?_, fun hb0 => ⟨(by unfold saysB; rw [hb0]; rfl), rfl⟩⟩
        refine ww_and1 ?_
        refine wt_cmp ?_
        refine w_ix ?_
        refine w_name 10 rfl (.inl rfl) rfl ?_
        refine w_int ?_
        first | refine ix_tupD 1 rfl rfl ?_ | refine ix_lstD 1 rfl rfl ?_ | refine ix_tupD 1 rfl (by assumption) ?_ | refine ix_lstD 1 rfl (by assumption) ?_ | refine ix_ptrD 0 rfl 1 rfl rfl ?_ | refine ix_ptrD 1 rfl 1 rfl rfl ?_ | refine ix_ptrD 2 rfl 1 rfl rfl ?_
        refine w_ix ?_
        refine w_name 9 rfl (.inl rfl) rfl ?_
        refine w_int ?_
        first | refine ix_tupD 1 rfl rfl ?_ | refine ix_lstD 1 rfl rfl ?_ | refine ix_tupD 1 rfl (by assumption) ?_ | refine ix_lstD 1 rfl (by assumption) ?_ | refine ix_ptrD 0 rfl 1 rfl rfl ?_ | refine ix_ptrD 1 rfl 1 rfl rfl ?_ | refine ix_ptrD 2 rfl 1 rfl rfl ?_
        refine o_ne (by cases (M.cell e.1 ask).2 <;> cases (N.cell e.2 ask).2 <;> rfl) ?_
        rw [opt_eqF]
        refine ⟨_, rfl, ?_⟩
        exact ⟨(by unfold saysB; rw [hb0, Bool.true_and]; congr 1; exact Bool.beq_comm ..), rfl⟩
      refine ⟨fun hb => ?_, fun hbs => ?_⟩
      · -- return ('says', _law_k, _law_ask)
        refine w_cons (w_ret (w_dr ?_))
        refine w_tup ?_
        refine wa_cons ?_
        refine w_str ?_
        refine wa_cons ?_
        refine w_name 5 rfl (.inl rfl) rfl ?_
        refine wa_cons ?_
        refine w_name 8 rfl (.inl rfl) rfl ?_
        refine wa_nil ?_
        refine ⟨by simp, ?_⟩
        exact ⟨_, List.sublist_cons_self _ _, kq _ (.inr ⟨L, rfl, hin, .inr ⟨(hS _).mp (by simpa using hb00), fault_w he hask hH hA (wordF_says hb)⟩⟩)⟩
      refine w_nil ?_
      -- if _law_cell_here[0] is not None and _law_beside[0] is None:
      refine w_cons (w_if ?_)
      refine wt_b ((goesB (M.cell e.1 ask) (N.cell e.2 ask))) ?_ ?_
      · refine wt_w ?_
        refine ww_and ?_
        refine wt_cmp ?_
        refine w_ix ?_
        refine w_name 9 rfl (.inl rfl) rfl ?_
        refine w_int ?_
        first | refine ix_tupD 0 rfl rfl ?_ | refine ix_lstD 0 rfl rfl ?_ | refine ix_tupD 0 rfl (by assumption) ?_ | refine ix_lstD 0 rfl (by assumption) ?_ | refine ix_ptrD 0 rfl 0 rfl rfl ?_ | refine ix_ptrD 1 rfl 0 rfl rfl ?_ | refine ix_ptrD 2 rfl 0 rfl rfl ?_
        refine w_non ?_
        refine o_notN ?_
        rw [isn_some]
        refine ⟨_, rfl, ?_⟩
        refine ⟨fun hb0 => ?_, fun hb0 => ⟨(by unfold goesB; rw [hb0]; rfl), rfl⟩⟩
        refine ww_and1 ?_
        refine wt_cmp ?_
        refine w_ix ?_
        refine w_name 10 rfl (.inl rfl) rfl ?_
        refine w_int ?_
        first | refine ix_tupD 0 rfl rfl ?_ | refine ix_lstD 0 rfl rfl ?_ | refine ix_tupD 0 rfl (by assumption) ?_ | refine ix_lstD 0 rfl (by assumption) ?_ | refine ix_ptrD 0 rfl 0 rfl rfl ?_ | refine ix_ptrD 1 rfl 0 rfl rfl ?_ | refine ix_ptrD 2 rfl 0 rfl rfl ?_
        refine w_non ?_
        refine o_isN ?_
        rw [isn_none]
        refine ⟨_, rfl, ?_⟩
        exact ⟨(by unfold goesB; rw [hb0]; rfl), rfl⟩
      refine ⟨fun hb => ?_, fun hbg => ?_⟩
      · -- return ('goes', _law_k, _law_ask)
        refine w_cons (w_ret (w_dr ?_))
        refine w_tup ?_
        refine wa_cons ?_
        refine w_str ?_
        refine wa_cons ?_
        refine w_name 5 rfl (.inl rfl) rfl ?_
        refine wa_cons ?_
        refine w_name 8 rfl (.inl rfl) rfl ?_
        refine wa_nil ?_
        refine ⟨by simp, ?_⟩
        exact ⟨_, List.sublist_cons_self _ _, kq _ (.inr ⟨L, rfl, hin, .inr ⟨(hS _).mp (by simpa using hb00), fault_w he hask hH hA (wordF_goes hbs hb)⟩⟩)⟩
      refine w_nil ?_
      -- if _law_cell_here[0] is not None and (_law_cell_here[0], _law_beside[0]) not in _law_there:
      refine w_cons (w_if ?_)
      refine wt_mono (Ψ := (fun b μ1 => μ1 = (q, .dt (metT S)) :: μ ∧ (b = true → wordF M N L e ask = some ("behind" : Str)) ∧ (b = false → wordF M N L e ask = none))) ?_ ?_
      · refine wt_w ?_
        refine ww_and ?_
        refine wt_cmp ?_
        refine w_ix ?_
        refine w_name 9 rfl (.inl rfl) rfl ?_
        refine w_int ?_
        first | refine ix_tupD 0 rfl rfl ?_ | refine ix_lstD 0 rfl rfl ?_ | refine ix_tupD 0 rfl (by assumption) ?_ | refine ix_lstD 0 rfl (by assumption) ?_ | refine ix_ptrD 0 rfl 0 rfl rfl ?_ | refine ix_ptrD 1 rfl 0 rfl rfl ?_ | refine ix_ptrD 2 rfl 0 rfl rfl ?_
        refine w_non ?_
        refine o_notN ?_
        refine ⟨_, rfl, ?_⟩
        refine ⟨fun hb0 => ?_, fun hb0 => ?_⟩
        rotate_left
        · exact ⟨rfl, fun z => (nomatch z), fun _ => wordF_open hbs hbg (isN_none (x := (M.cell e.1 ask).1) (by simpa using hb0))⟩
        refine ww_and1 ?_
        refine wt_tnin hu ?_
        refine w_tup ?_
        refine wa_cons ?_
        refine w_ix ?_
        refine w_name 9 rfl (.inl rfl) rfl ?_
        refine w_int ?_
        first | refine ix_tupD 0 rfl rfl ?_ | refine ix_lstD 0 rfl rfl ?_ | refine ix_tupD 0 rfl (by assumption) ?_ | refine ix_lstD 0 rfl (by assumption) ?_ | refine ix_ptrD 0 rfl 0 rfl rfl ?_ | refine ix_ptrD 1 rfl 0 rfl rfl ?_ | refine ix_ptrD 2 rfl 0 rfl rfl ?_
        refine wa_cons ?_
        refine w_ix ?_
        refine w_name 10 rfl (.inl rfl) rfl ?_
        refine w_int ?_
        first | refine ix_tupD 0 rfl rfl ?_ | refine ix_lstD 0 rfl rfl ?_ | refine ix_tupD 0 rfl (by assumption) ?_ | refine ix_lstD 0 rfl (by assumption) ?_ | refine ix_ptrD 0 rfl 0 rfl rfl ?_ | refine ix_ptrD 1 rfl 0 rfl rfl ?_ | refine ix_ptrD 2 rfl 0 rfl rfl ?_
        refine wa_nil ?_
        refine ⟨by simp, ?_⟩
        refine w_name 4 rfl (.inl rfl) rfl ?_
        obtain ⟨x, hx⟩ := notN_some hb0
        obtain ⟨y, hy⟩ : ∃ y, (N.cell e.2 ask).1 = some y := by
          have hb' := hbg
          unfold goesB at hb'
          rw [hx] at hb'
          cases e1 : (N.cell e.2 ask).1 with
          | none => rw [e1] at hb'; simp at hb'
          | some y => exact ⟨y, rfl⟩
        have hwf := wordF_here (L := L) hS hbs hbg hx hy
        refine ⟨q, 0, _, pk2 (x, y), rfl, by rw [hx, hy]; rfl, rfl, ?_⟩
        rw [metT_in]
        refine ⟨rfl, fun z => ?_, fun z => ?_⟩
        · rw [hwf, if_neg (by simpa using z)]
        · rw [hwf, if_pos (by simpa using z)]
      rintro b μ1 ⟨rfl, hb1, hb2⟩
      refine ⟨fun hb => ?_, fun hb => ?_⟩
      · -- return ('behind', _law_k, _law_ask)
        refine w_cons (w_ret (w_dr ?_))
        refine w_tup ?_
        refine wa_cons ?_
        refine w_str ?_
        refine wa_cons ?_
        refine w_name 5 rfl (.inl rfl) rfl ?_
        refine wa_cons ?_
        refine w_name 8 rfl (.inl rfl) rfl ?_
        refine wa_nil ?_
        refine ⟨by simp, ?_⟩
        exact ⟨_, List.sublist_cons_self _ _, kq _ (.inr ⟨L, rfl, hin, .inr ⟨(hS _).mp (by simpa using hb00), fault_w he hask hH hA (hb1 hb)⟩⟩)⟩
      refine w_nil ?_
      refine w_nil ?_
      have hthis := hb2 hb
      exact ⟨[_, _, _], rfl, ⟨_, _, _, (fun a haa => if e1 : a = ask then e1 ▸ hthis else hA a (by omega)), rfl, rfl⟩⟩
    rintro vs μ' ⟨w8, w9, w10, hA, rfl, rfl⟩
    refine wSs_rho (ρ' := [_, _, _, _, _, _, _, _, _, _, _]) rfl ?_
    refine w_nil ?_
    have hthis : ∀ (k' : Nat) (p' : Nat × Nat), k' < k + 1 → L[k']? = some p' → ∀ a', a' < M.asks → wordF M N L p' a' = none := fun k' p' hk' hp' => by
      by_cases e9 : k' = k
      · subst e9; rw [he] at hp'; cases hp'; exact hA
      · exact hH k' p' (by omega) hp'
    exact ⟨[_, _, _, _, _, _], rfl, ⟨_, _, _, _, _, _, hthis, rfl, rfl⟩⟩
  rintro vs μ' ⟨w5, w6, w7, w8, w9, w10, hH, rfl, rfl⟩
  refine wSs_rho (ρ' := [_, _, _, _, _, _, _, _, _, _, _]) rfl ?_
  -- return None
  refine w_cons (w_ret (w_dr ?_))
  refine w_non ?_
  exact ⟨_, List.sublist_cons_self _ _, kq .non (.inr ⟨L, rfl, hin, .inr ⟨(hS _).mp (by simpa using hb00), .inl ⟨rfl, fun k p hk => hH k p (lt_of_get hk) hk⟩⟩⟩)⟩
end
end L16

namespace L16
open PySem PySem.Spec L2 Oc
open Evl (Ex)
local macro_rules | `(tactic| walk_at "s") => `(tactic| first | assumption | omega | decide | (simp only [] at *; omega))
local macro_rules | `(tactic| walk_at "Add") => `(tactic| first | refine o_addN ?_ | refine o_add ?_ | refine o_addS (by walk_at "s") ?_ | refine o_addT (by walk_at "s") ?_ | refine o_addL (by walk_at "s") ?_)
local macro_rules | `(tactic| walk_at "Sub") => `(tactic| refine o_sub ?_)
local macro_rules | `(tactic| walk_at "Mult") => `(tactic| refine o_mul (by walk_at "s") ?_)
local macro_rules | `(tactic| walk_at "Mod") => `(tactic| first | refine o_modN (by walk_at "s") ?_ | refine o_mod (by walk_at "s") ?_)
local macro_rules | `(tactic| walk_at "FloorDiv") => `(tactic| first | refine o_divN (by walk_at "s") ?_ | refine o_div (by walk_at "s") ?_)
local macro_rules | `(tactic| walk_at "Pow") => `(tactic| refine o_pow (by walk_at "s") ?_)
local macro_rules | `(tactic| walk_at "LShift") => `(tactic| refine o_shl (by walk_at "s") ?_)
local macro_rules | `(tactic| walk_at "RShift") => `(tactic| refine o_shr (by walk_at "s") ?_)
local macro_rules | `(tactic| walk_at "BitAnd") => `(tactic| refine o_band ?_)
local macro_rules | `(tactic| walk_at "BitXor") => `(tactic| refine o_bxor ?_)
local macro_rules | `(tactic| walk_at "BitOr") => `(tactic| refine o_bor ?_)
local macro_rules | `(tactic| walk_at "Lt") => `(tactic| refine o_lt ?_)
local macro_rules | `(tactic| walk_at "LtE") => `(tactic| refine o_le ?_)
local macro_rules | `(tactic| walk_at "Gt") => `(tactic| refine o_gt ?_)
local macro_rules | `(tactic| walk_at "GtE") => `(tactic| refine o_ge ?_)
local macro_rules | `(tactic| walk_at "Eq") => `(tactic| refine o_eq (by rfl) ?_)
local macro_rules | `(tactic| walk_at "NotEq") => `(tactic| refine o_ne (by rfl) ?_)
local macro_rules | `(tactic| walk_at "Is") => `(tactic| refine o_isN ?_)
local macro_rules | `(tactic| walk_at "IsNot") => `(tactic| refine o_notN ?_)
local macro_rules | `(tactic| walk_at "In") => `(tactic| refine o_in (by first | exact .inl rfl | exact .inr (.inl rfl) | exact .inr (.inr rfl)) (by rfl) (by rfl) ?_)
local macro_rules | `(tactic| walk_at "NotIn") => `(tactic| refine o_nin (by first | exact .inl rfl | exact .inr (.inl rfl) | exact .inr (.inr rfl)) (by rfl) (by rfl) ?_)
local macro_rules | `(tactic| walk_at "c_abs") => `(tactic| refine c_abs ?_)
local macro_rules | `(tactic| walk_at "c_len") => `(tactic| first | refine c_lenL ?_ | refine c_lenC ?_ | refine c_lenT ?_ | refine c_lenS (by walk_at "s") ?_ | refine c_lenP 0 (by first | assumption | rfl) ?_)
local macro_rules | `(tactic| walk_at "c_str") => `(tactic| refine c_str (by walk_at "s") ?_)
local macro_rules | `(tactic| walk_at "c_isinstance") => `(tactic| refine c_isi rfl (by rfl) ?_)
local macro_rules | `(tactic| walk_at "sl") => `(tactic| first | refine sd_tup ?_ | refine sd_lst ?_)
local macro_rules | `(tactic| walk_at "c_tuple") => `(tactic| first | refine c_tupL ?_ | refine c_tupP 0 (by first | assumption | rfl) ?_ | refine c_tupT ?_)
local macro_rules | `(tactic| walk_at "c_int") => `(tactic| first | refine c_intB ?_)
local macro_rules | `(tactic| walk_at "USub") => `(tactic| refine u_neg ?_)
local macro_rules | `(tactic| walk_at "pen") => `(tactic| first | assumption | exact get_set (by assumption) | exact get_set (get_set (by assumption)) | exact get_here | (apply get_cons; walk_at "pen") | (apply get_app; walk_at "pen"))
local macro_rules | `(tactic| walk_at "mu") => `(tactic| simp only [List.set_cons_succ, List.set_set, List.set_cons_zero])
section
variable {P : Program} {w : World} {K : PySem.W.Frag} {mg : Str → Option Value} {base : Heap}
theorem ok_lfaultP (B : Src K mg "_law_fault" s__law_fault ["_law_machine_here", "_law_other_here", "_law_thing"]) (T : Tx mg) (G__law_is_pair : KnG P w K mg base 1 "_law_is_pair" ["_law_thing", "_law_many", "_law_more"] S_lispair16) : KnG P w K mg base 2 "_law_fault" ["_law_machine_here", "_law_other_here", "_law_thing"] S_lfaultP := by
  refine kn_ofG B sc__law_fault (fun ds μ Φ h => by obtain ⟨_, _, _, _, _, rfl, _⟩ := h; rfl) fun f cdv A outer s H E grd hr ds μ Φ h => ?_
  obtain ⟨M, N, qt, ys, μ0, rfl, rfl, hM, hN, hma, hyl, hye, kq⟩ := h
  have hu := hu_of hr.r
  have ha4 := hM.a4
  refine wSs_rho (ρ' := [_, _, _, _, _, _, _, _, _, _, _]) rfl ?_
  -- if not isinstance(_law_thing, list):
  refine w_cons (w_if ?_)
  refine wt_not ?_
  refine wt_val ?_
  refine w_callB (id := "isinstance") T.b_isinstance ?_
  refine wa_cons ?_
  refine w_name 2 rfl (.inl rfl) rfl ?_
  refine wa_cons ?_
  refine w_ty (n := "list") T.b_list ?_
  refine wa_nil ?_
  refine c_isiP 0 rfl (by rfl) ?_
  refine ⟨_, rfl, ?_⟩
  refine ⟨fun hb => ?_, fun hb => ?_⟩
  · -- return ('shape',)
    refine w_cons (w_ret (w_dr ?_))
    refine w_tup ?_
    refine wa_cons ?_
    refine w_str ?_
    refine wa_nil ?_
    refine ⟨by simp, ?_⟩
    cases hb
  refine w_nil ?_
  -- if False in [_law_is_pair(_law_pair, len(_law_machine_here[1]), len(_law_other_here[1])) for _law_pair in _law_thing]:
  refine w_cons (w_if ?_)
  refine wt_cmp ?_
  refine w_bl ?_
  -- comp [_law_is_pair(_law_pair, len(_law_machine_here[1]), len(_law_other_here[1])) for _law_pair in _law_thing]
  refine w_fz0 (w_lcMP (own := [("_law_pair", 3)]) (.one 3) (by decide) rfl sc__law_fault.nd (blkOk_by (N := N__law_fault) (sc := defScope s__law_fault) (by decide +kernel)) (fun _ _ _ _ _ => pg_name (i := 3) sc__law_fault.nd rfl (by first | exact .inl rfl | exact .inr rfl)) ?_)
  refine lcWP_of ?_
  refine wi_ptr' ?_
  refine w_name 2 rfl (.inl rfl) rfl ?_
  refine ⟨_, rfl, ?_⟩
  refine ⟨0, _, rfl, ?_⟩
  refine lcq_mapP (ys) _ ((fun y => D.bl (isPairB M.rooms.length N.rooms.length y))) (List.map_id ys).symm (by first | omega | (simp only [List.length_map, List.length_range]; omega) | (simp; omega)) ?_ ?_
  · intro p_pair ipair pair hpair
    refine ⟨[_, _, _, _, _, _, _, _, _, _, _], rfl, fun _ _ _ _ _ => ?_⟩
    refine w_callG G__law_is_pair hr ?_
    refine wa_cons ?_
    refine w_name 3 rfl (.inl rfl) rfl ?_
    refine wa_cons ?_
    refine w_callB (id := "len") T.b_len ?_
    refine wa_cons ?_
    refine w_ix ?_
    refine w_name 0 rfl (.inr (.inl rfl)) rfl ?_
    refine w_int ?_
    first | refine ix_tupD 1 rfl rfl ?_ | refine ix_lstD 1 rfl rfl ?_ | refine ix_tupD 1 rfl (by assumption) ?_ | refine ix_lstD 1 rfl (by assumption) ?_ | refine ix_ptrD 0 rfl 1 rfl rfl ?_ | refine ix_ptrD 1 rfl 1 rfl rfl ?_ | refine ix_ptrD 2 rfl 1 rfl rfl ?_
    refine wa_nil ?_
    walk_at "c_len"
    try rw [List.length_map]
    refine wa_cons ?_
    refine w_callB (id := "len") T.b_len ?_
    refine wa_cons ?_
    refine w_ix ?_
    refine w_name 1 rfl (.inr (.inl rfl)) rfl ?_
    refine w_int ?_
    first | refine ix_tupD 1 rfl rfl ?_ | refine ix_lstD 1 rfl rfl ?_ | refine ix_tupD 1 rfl (by assumption) ?_ | refine ix_lstD 1 rfl (by assumption) ?_ | refine ix_ptrD 0 rfl 1 rfl rfl ?_ | refine ix_ptrD 1 rfl 1 rfl rfl ?_ | refine ix_ptrD 2 rfl 1 rfl rfl ?_
    refine wa_nil ?_
    walk_at "c_len"
    try rw [List.length_map]
    refine wa_nil ?_
    refine ⟨pair, _, _, rfl, (hye pair (List.mem_of_getElem? hpair)).sub (.cons _ (List.sublist_cons_self _ _)), ?_⟩
    exact ⟨rfl, rfl⟩
  intro p_c
  refine ⟨_, _, _, rfl, rfl, ?_⟩
  refine o_inLY hr.un65 (Ly.bl false) (Lys.map (n := 1) fun z _ => (Ly.bl _).mono (by decide)) ?_
  rw [any_false]
  refine ⟨_, rfl, ?_⟩
  refine ⟨fun hb => ?_, fun hb => ?_⟩
  rotate_left
  obtain ⟨L, rfl, hin⟩ : ∃ L : List (Nat × Nat), ys = L.map natP ∧ ∀ p ∈ L, InP M N p := pairs_yes (by simpa using hb)
  rw [List.length_map] at hyl
  rotate_left
  · -- return ('shape',)
    refine w_cons (w_ret (w_dr ?_))
    refine w_tup ?_
    refine wa_cons ?_
    refine w_str ?_
    refine wa_nil ?_
    refine ⟨by simp, ?_⟩
    exact ⟨_, List.Sublist.refl _, kq _ (.inl ⟨by simpa using hb, rfl⟩)⟩
  refine w_nil ?_
  -- _law_there = dict([(_law_pair, True) for _law_pair in _law_thing])
  refine w_cons (w_set 4 sc__law_fault.nd rfl (.inl rfl) (.inl rfl) ?_)
  refine w_callTy (T := "dict") T.b_dict ?_
  refine wa_cons ?_
  -- comp [(_law_pair, True) for _law_pair in _law_thing]
  refine w_fz0 (w_lcMP (own := [("_law_pair", 3)]) (.one 3) (by decide) rfl sc__law_fault.nd (blkOk_by (N := N__law_fault) (sc := defScope s__law_fault) (by decide +kernel)) (fun _ _ _ _ _ => pg_name (i := 3) sc__law_fault.nd rfl (by first | exact .inl rfl | exact .inr rfl)) ?_)
  refine lcWP_of ?_
  refine wi_ptr' ?_
  refine w_name 2 rfl (.inl rfl) rfl ?_
  refine ⟨_, rfl, ?_⟩
  refine ⟨0, _, rfl, ?_⟩
  refine lcq_mapP (L) _ ((fun p => D.tup [natP p, .bl true])) rfl (by first | omega | (simp only [List.length_map, List.length_range]; omega) | (simp; omega)) ?_ ?_
  · intro p_pair ipair pair hpair
    refine ⟨[_, _, _, _, _, _, _, _, _, _, _], rfl, fun _ _ _ _ _ => ?_⟩
    refine w_tup ?_
    refine wa_cons ?_
    refine w_name 3 rfl (.inl rfl) rfl ?_
    refine wa_cons ?_
    refine w_bl ?_
    refine wa_nil ?_
    refine ⟨by simp, ?_⟩
    exact ⟨rfl, rfl⟩
  intro p_c
  refine ⟨_, _, _, rfl, rfl, ?_⟩
  refine wa_nil ?_
  refine c_dictTR hr.units (kds := L.map fun p => (pk2 p, D.bl true)) (by rw [List.map_map]; rfl) fun q => ?_
  obtain ⟨S, hSe, hS⟩ := puts_met L []
  have hS : ∀ g, g ∈ S ↔ g ∈ L := fun g => by rw [hS g]; simp
  rw [show putsD [] (L.map fun p => (pk2 p, D.bl true)) = metT S from hSe]
  -- if (0, 0) not in _law_there:
  refine w_cons (w_if ?_)
  refine wt_tnin hu ?_
  refine w_tup ?_
  refine wa_cons ?_
  refine w_int ?_
  refine wa_cons ?_
  refine w_int ?_
  refine wa_nil ?_
  refine ⟨by simp, ?_⟩
  refine w_name 4 rfl (.inl rfl) rfl ?_
  refine ⟨q, 0, _, pk2 (0, 0), rfl, rfl, rfl, ?_⟩
  rw [metT_in]
  refine ⟨fun hb => ?_, fun hb00 => ?_⟩
  · -- return ('begin',)
    refine w_cons (w_ret (w_dr ?_))
    refine w_tup ?_
    refine wa_cons ?_
    refine w_str ?_
    refine wa_nil ?_
    refine ⟨by simp, ?_⟩
    exact ⟨_, List.sublist_cons_self _ _, kq _ (.inr ⟨L, rfl, hin, .inl ⟨(fun z => by rw [decide_eq_true ((hS _).mpr z)] at hb; cases hb), rfl⟩⟩)⟩
  refine w_nil ?_
  -- for _law_k, (_law_one, _law_two) in enumerate(_law_thing):
  refine w_cons (w_forPV [5, 6, 7, 8, 9, 10] ?_ PassesOwn.never rfl)
  refine wi_enumP T.b_enumerate ?_
  refine w_name 2 rfl (.inl rfl) rfl ?_
  refine ⟨_, _, rfl, ⟨1, rfl⟩, ?_⟩
  refine ⟨_, fun i vs μ' => ∃  (w5 w6 w7 w8 w9 w10 : Option D), (∀ (k' : Nat) (p' : Nat × Nat), k' < i → L[k']? = some p' → ∀ a', a' < M.asks → wordF M N L p' a' = none) ∧ vs = [w5, w6, w7, w8, w9, w10] ∧ (q, .dt (metT S)) :: (qt, .lst (L.map natP)) :: μ0 = μ', (by first | exact nats_len | exact nats2_len | exact enumD_len.trans (List.length_map _) | exact enumD_len | exact List.length_map _ | exact rfl | simp), ⟨_, _, _, _, _, _, (fun k' p' hk' => absurd hk' (Nat.not_lt_zero _)), rfl, rfl⟩, (fun _ _ _ h => by obtain ⟨_, _, _, _, _, _, _, _, rfl⟩ := h; exact ⟨1, rfl⟩), ?_, ?_⟩
  · rintro k x vs μ' hx ⟨w5, w6, w7, w8, w9, w10, hH, rfl, rfl⟩
    refine wG_rho (ρ' := [_, _, _, _, _, _, _, _, _, _, _]) rfl ?_
    obtain ⟨e, he, rfl⟩ := enum_get' hx
    have hpi := hin e (List.mem_of_getElem? he)
    first | refine wg_tup rfl rfl ?_ | refine wg_lst rfl rfl ?_
    refine wgs_cons ?_
    refine wg_name 5 sc__law_fault.nd rfl (.inl rfl) (.inl rfl) ?_
    refine wgs_cons ?_
    first | refine wg_tup rfl rfl ?_ | refine wg_lst rfl rfl ?_
    refine wgs_cons ?_
    refine wg_name 6 sc__law_fault.nd rfl (.inl rfl) (.inl rfl) ?_
    refine wgs_cons ?_
    refine wg_name 7 sc__law_fault.nd rfl (.inl rfl) (.inl rfl) ?_
    refine wgs_nil ?_
    refine wgs_nil ?_
    -- for _law_ask in range(_law_machine_here[0]):
    refine w_cons (w_forV [8, 9, 10] ?_ PassesOwn.never rfl)
    refine wi_rngN T.b_range ?_
    refine w_ix ?_
    refine w_name 0 rfl (.inr (.inl rfl)) rfl ?_
    refine w_int ?_
    first | refine ix_tupD 0 rfl rfl ?_ | refine ix_lstD 0 rfl rfl ?_ | refine ix_tupD 0 rfl (by assumption) ?_ | refine ix_lstD 0 rfl (by assumption) ?_ | refine ix_ptrD 0 rfl 0 rfl rfl ?_ | refine ix_ptrD 1 rfl 0 rfl rfl ?_ | refine ix_ptrD 2 rfl 0 rfl rfl ?_
    refine ⟨_, by rfl, by omega, ?_⟩
    refine ⟨_, fun i vs μ' => ∃  (w8 w9 w10 : Option D), (∀ a, a < i → wordF M N L e a = none) ∧ vs = [w8, w9, w10] ∧ (q, .dt (metT S)) :: (qt, .lst (L.map natP)) :: μ0 = μ', (by first | exact nats_len | exact nats2_len | exact enumD_len.trans (List.length_map _) | exact enumD_len | exact List.length_map _ | exact rfl | simp), ⟨_, _, _, (fun a h => absurd h (Nat.not_lt_zero _)), rfl, rfl⟩, ?_, ?_⟩
    · rintro ask x vs μ' hx ⟨w8, w9, w10, hA, rfl, rfl⟩
      refine wG_rho (ρ' := [_, _, _, _, _, _, _, _, _, _, _]) rfl ?_
      obtain ⟨hask, rfl⟩ := nats_get hx
      obtain ⟨g1, g2, g3⟩ := mach_at hM hpi.1 hask
      obtain ⟨g4, g5, g6⟩ := mach_at hN hpi.2 (show ask < N.asks by rw [← hma]; exact hask)
      refine wg_name 8 sc__law_fault.nd rfl (.inl rfl) (.inl rfl) ?_
      -- _law_cell_here = _law_machine_here[1][_law_one][_law_ask]
      refine w_cons (w_set 9 sc__law_fault.nd rfl (.inl rfl) (.inl rfl) ?_)
      refine w_ix ?_
      refine w_ix ?_
      refine w_ix ?_
      refine w_name 0 rfl (.inr (.inl rfl)) rfl ?_
      refine w_int ?_
      first | refine ix_tupD 1 rfl rfl ?_ | refine ix_lstD 1 rfl rfl ?_ | refine ix_tupD 1 rfl (by assumption) ?_ | refine ix_lstD 1 rfl (by assumption) ?_ | refine ix_ptrD 0 rfl 1 rfl rfl ?_ | refine ix_ptrD 1 rfl 1 rfl rfl ?_ | refine ix_ptrD 2 rfl 1 rfl rfl ?_
      refine w_name 6 rfl (.inl rfl) rfl ?_
      refine ix_tupD e.1 rfl g1 ?_
      refine w_name 8 rfl (.inl rfl) rfl ?_
      refine ix_tupD ask rfl g2 ?_
      -- _law_beside = _law_other_here[1][_law_two][_law_ask]
      refine w_cons (w_set 10 sc__law_fault.nd rfl (.inl rfl) (.inl rfl) ?_)
      refine w_ix ?_
      refine w_ix ?_
      refine w_ix ?_
      refine w_name 1 rfl (.inr (.inl rfl)) rfl ?_
      refine w_int ?_
      first | refine ix_tupD 1 rfl rfl ?_ | refine ix_lstD 1 rfl rfl ?_ | refine ix_tupD 1 rfl (by assumption) ?_ | refine ix_lstD 1 rfl (by assumption) ?_ | refine ix_ptrD 0 rfl 1 rfl rfl ?_ | refine ix_ptrD 1 rfl 1 rfl rfl ?_ | refine ix_ptrD 2 rfl 1 rfl rfl ?_
      refine w_name 7 rfl (.inl rfl) rfl ?_
      refine ix_tupD e.2 rfl g4 ?_
      refine w_name 8 rfl (.inl rfl) rfl ?_
      refine ix_tupD ask rfl g5 ?_
      -- if _law_cell_here[1] is not None and _law_beside[1] != _law_cell_here[1]:
      refine w_cons (w_if ?_)
      refine wt_b ((saysB (M.cell e.1 ask) (N.cell e.2 ask))) ?_ ?_
      · refine wt_w ?_
        refine ww_and ?_
        refine wt_cmp ?_
        refine w_ix ?_
        refine w_name 9 rfl (.inl rfl) rfl ?_
        refine w_int ?_
        first | refine ix_tupD 1 rfl rfl ?_ | refine ix_lstD 1 rfl rfl ?_ | refine ix_tupD 1 rfl (by assumption) ?_ | refine ix_lstD 1 rfl (by assumption) ?_ | refine ix_ptrD 0 rfl 1 rfl rfl ?_ | refine ix_ptrD 1 rfl 1 rfl rfl ?_ | refine ix_ptrD 2 rfl 1 rfl rfl ?_
        refine w_non ?_
        refine o_notN ?_
        rw [isn_some]
        refine ⟨_, rfl, ?_⟩
        refine ⟨fun hb0 => ?_, fun hb0 => ⟨(by unfold saysB; rw [hb0]; rfl), rfl⟩⟩
        refine ww_and1 ?_
        refine wt_cmp ?_
        refine w_ix ?_
        refine w_name 10 rfl (.inl rfl) rfl ?_
        refine w_int ?_
        first | refine ix_tupD 1 rfl rfl ?_ | refine ix_lstD 1 rfl rfl ?_ | refine ix_tupD 1 rfl (by assumption) ?_ | refine ix_lstD 1 rfl (by assumption) ?_ | refine ix_ptrD 0 rfl 1 rfl rfl ?_ | refine ix_ptrD 1 rfl 1 rfl rfl ?_ | refine ix_ptrD 2 rfl 1 rfl rfl ?_
        refine w_ix ?_
        refine w_name 9 rfl (.inl rfl) rfl ?_
        refine w_int ?_
        first | refine ix_tupD 1 rfl rfl ?_ | refine ix_lstD 1 rfl rfl ?_ | refine ix_tupD 1 rfl (by assumption) ?_ | refine ix_lstD 1 rfl (by assumption) ?_ | refine ix_ptrD 0 rfl 1 rfl rfl ?_ | refine ix_ptrD 1 rfl 1 rfl rfl ?_ | refine ix_ptrD 2 rfl 1 rfl rfl ?_
        refine o_ne (by cases (M.cell e.1 ask).2 <;> cases (N.cell e.2 ask).2 <;> rfl) ?_
        rw [opt_eqF]
        refine ⟨_, rfl, ?_⟩
        exact ⟨(by unfold saysB; rw [hb0, Bool.true_and]; congr 1; exact Bool.beq_comm ..), rfl⟩
      refine ⟨fun hb => ?_, fun hbs => ?_⟩
      · -- return ('says', _law_k, _law_ask)
        refine w_cons (w_ret (w_dr ?_))
        refine w_tup ?_
        refine wa_cons ?_
        refine w_str ?_
        refine wa_cons ?_
        refine w_name 5 rfl (.inl rfl) rfl ?_
        refine wa_cons ?_
        refine w_name 8 rfl (.inl rfl) rfl ?_
        refine wa_nil ?_
        refine ⟨by simp, ?_⟩
        exact ⟨_, List.sublist_cons_self _ _, kq _ (.inr ⟨L, rfl, hin, .inr ⟨(hS _).mp (by simpa using hb00), fault_w he hask hH hA (wordF_says hb)⟩⟩)⟩
      refine w_nil ?_
      -- if _law_cell_here[0] is not None and _law_beside[0] is None:
      refine w_cons (w_if ?_)
      refine wt_b ((goesB (M.cell e.1 ask) (N.cell e.2 ask))) ?_ ?_
      · refine wt_w ?_
        refine ww_and ?_
        refine wt_cmp ?_
        refine w_ix ?_
        refine w_name 9 rfl (.inl rfl) rfl ?_
        refine w_int ?_
        first | refine ix_tupD 0 rfl rfl ?_ | refine ix_lstD 0 rfl rfl ?_ | refine ix_tupD 0 rfl (by assumption) ?_ | refine ix_lstD 0 rfl (by assumption) ?_ | refine ix_ptrD 0 rfl 0 rfl rfl ?_ | refine ix_ptrD 1 rfl 0 rfl rfl ?_ | refine ix_ptrD 2 rfl 0 rfl rfl ?_
        refine w_non ?_
        refine o_notN ?_
        rw [isn_some]
        refine ⟨_, rfl, ?_⟩
        refine ⟨fun hb0 => ?_, fun hb0 => ⟨(by unfold goesB; rw [hb0]; rfl), rfl⟩⟩
        refine ww_and1 ?_
        refine wt_cmp ?_
        refine w_ix ?_
        refine w_name 10 rfl (.inl rfl) rfl ?_
        refine w_int ?_
        first | refine ix_tupD 0 rfl rfl ?_ | refine ix_lstD 0 rfl rfl ?_ | refine ix_tupD 0 rfl (by assumption) ?_ | refine ix_lstD 0 rfl (by assumption) ?_ | refine ix_ptrD 0 rfl 0 rfl rfl ?_ | refine ix_ptrD 1 rfl 0 rfl rfl ?_ | refine ix_ptrD 2 rfl 0 rfl rfl ?_
        refine w_non ?_
        refine o_isN ?_
        rw [isn_none]
        refine ⟨_, rfl, ?_⟩
        exact ⟨(by unfold goesB; rw [hb0]; rfl), rfl⟩
      refine ⟨fun hb => ?_, fun hbg => ?_⟩
      · -- return ('goes', _law_k, _law_ask)
        refine w_cons (w_ret (w_dr ?_))
        refine w_tup ?_
        refine wa_cons ?_
        refine w_str ?_
        refine wa_cons ?_
        refine w_name 5 rfl (.inl rfl) rfl ?_
        refine wa_cons ?_
        refine w_name 8 rfl (.inl rfl) rfl ?_
        refine wa_nil ?_
        refine ⟨by simp, ?_⟩
        exact ⟨_, List.sublist_cons_self _ _, kq _ (.inr ⟨L, rfl, hin, .inr ⟨(hS _).mp (by simpa using hb00), fault_w he hask hH hA (wordF_goes hbs hb)⟩⟩)⟩
      refine w_nil ?_
      -- if _law_cell_here[0] is not None and (_law_cell_here[0], _law_beside[0]) not in _law_there:
      refine w_cons (w_if ?_)
      refine wt_mono (Ψ := (fun b μ1 => μ1 = (q, .dt (metT S)) :: (qt, .lst (L.map natP)) :: μ0 ∧ (b = true → wordF M N L e ask = some ("behind" : Str)) ∧ (b = false → wordF M N L e ask = none))) ?_ ?_
      · refine wt_w ?_
        refine ww_and ?_
        refine wt_cmp ?_
        refine w_ix ?_
        refine w_name 9 rfl (.inl rfl) rfl ?_
        refine w_int ?_
        first | refine ix_tupD 0 rfl rfl ?_ | refine ix_lstD 0 rfl rfl ?_ | refine ix_tupD 0 rfl (by assumption) ?_ | refine ix_lstD 0 rfl (by assumption) ?_ | refine ix_ptrD 0 rfl 0 rfl rfl ?_ | refine ix_ptrD 1 rfl 0 rfl rfl ?_ | refine ix_ptrD 2 rfl 0 rfl rfl ?_
        refine w_non ?_
        refine o_notN ?_
        refine ⟨_, rfl, ?_⟩
        refine ⟨fun hb0 => ?_, fun hb0 => ?_⟩
        rotate_left
        · exact ⟨rfl, fun z => (nomatch z), fun _ => wordF_open hbs hbg (isN_none (x := (M.cell e.1 ask).1) (by simpa using hb0))⟩
        refine ww_and1 ?_
        refine wt_tnin hu ?_
        refine w_tup ?_
        refine wa_cons ?_
        refine w_ix ?_
        refine w_name 9 rfl (.inl rfl) rfl ?_
        refine w_int ?_
        first | refine ix_tupD 0 rfl rfl ?_ | refine ix_lstD 0 rfl rfl ?_ | refine ix_tupD 0 rfl (by assumption) ?_ | refine ix_lstD 0 rfl (by assumption) ?_ | refine ix_ptrD 0 rfl 0 rfl rfl ?_ | refine ix_ptrD 1 rfl 0 rfl rfl ?_ | refine ix_ptrD 2 rfl 0 rfl rfl ?_
        refine wa_cons ?_
        refine w_ix ?_
        refine w_name 10 rfl (.inl rfl) rfl ?_
        refine w_int ?_
        first | refine ix_tupD 0 rfl rfl ?_ | refine ix_lstD 0 rfl rfl ?_ | refine ix_tupD 0 rfl (by assumption) ?_ | refine ix_lstD 0 rfl (by assumption) ?_ | refine ix_ptrD 0 rfl 0 rfl rfl ?_ | refine ix_ptrD 1 rfl 0 rfl rfl ?_ | refine ix_ptrD 2 rfl 0 rfl rfl ?_
        refine wa_nil ?_
        refine ⟨by simp, ?_⟩
        refine w_name 4 rfl (.inl rfl) rfl ?_
        obtain ⟨x, hx⟩ := notN_some hb0
        obtain ⟨y, hy⟩ : ∃ y, (N.cell e.2 ask).1 = some y := by
          have hb' := hbg
          unfold goesB at hb'
          rw [hx] at hb'
          cases e1 : (N.cell e.2 ask).1 with
          | none => rw [e1] at hb'; simp at hb'
          | some y => exact ⟨y, rfl⟩
        have hwf := wordF_here (L := L) hS hbs hbg hx hy
        refine ⟨q, 0, _, pk2 (x, y), rfl, by rw [hx, hy]; rfl, rfl, ?_⟩
        rw [metT_in]
        refine ⟨rfl, fun z => ?_, fun z => ?_⟩
        · rw [hwf, if_neg (by simpa using z)]
        · rw [hwf, if_pos (by simpa using z)]
      rintro b μ1 ⟨rfl, hb1, hb2⟩
      refine ⟨fun hb => ?_, fun hb => ?_⟩
      · -- return ('behind', _law_k, _law_ask)
        refine w_cons (w_ret (w_dr ?_))
        refine w_tup ?_
        refine wa_cons ?_
        refine w_str ?_
        refine wa_cons ?_
        refine w_name 5 rfl (.inl rfl) rfl ?_
        refine wa_cons ?_
        refine w_name 8 rfl (.inl rfl) rfl ?_
        refine wa_nil ?_
        refine ⟨by simp, ?_⟩
        exact ⟨_, List.sublist_cons_self _ _, kq _ (.inr ⟨L, rfl, hin, .inr ⟨(hS _).mp (by simpa using hb00), fault_w he hask hH hA (hb1 hb)⟩⟩)⟩
      refine w_nil ?_
      refine w_nil ?_
      have hthis := hb2 hb
      exact ⟨[_, _, _], rfl, ⟨_, _, _, (fun a haa => if e1 : a = ask then e1 ▸ hthis else hA a (by omega)), rfl, rfl⟩⟩
    rintro vs μ' ⟨w8, w9, w10, hA, rfl, rfl⟩
    refine wSs_rho (ρ' := [_, _, _, _, _, _, _, _, _, _, _]) rfl ?_
    refine w_nil ?_
    have hthis : ∀ (k' : Nat) (p' : Nat × Nat), k' < k + 1 → L[k']? = some p' → ∀ a', a' < M.asks → wordF M N L p' a' = none := fun k' p' hk' hp' => by
      by_cases e9 : k' = k
      · subst e9; rw [he] at hp'; cases hp'; exact hA
      · exact hH k' p' (by omega) hp'
    exact ⟨[_, _, _, _, _, _], rfl, ⟨_, _, _, _, _, _, hthis, rfl, rfl⟩⟩
  rintro vs μ' ⟨w5, w6, w7, w8, w9, w10, hH, rfl, rfl⟩
  refine wSs_rho (ρ' := [_, _, _, _, _, _, _, _, _, _, _]) rfl ?_
  -- return None
  refine w_cons (w_ret (w_dr ?_))
  refine w_non ?_
  exact ⟨_, List.sublist_cons_self _ _, kq .non (.inr ⟨L, rfl, hin, .inr ⟨(hS _).mp (by simpa using hb00), .inl ⟨rfl, fun k p hk => hH k p (lt_of_get hk) hk⟩⟩⟩)⟩
end
end L16

namespace L16
open PySem PySem.Spec L2 Oc
open Evl (Ex)
local macro_rules | `(tactic| walk_at "s") => `(tactic| first | assumption | omega | decide | (simp only [] at *; omega))
local macro_rules | `(tactic| walk_at "Add") => `(tactic| first | refine o_addN ?_ | refine o_add ?_ | refine o_addS (by walk_at "s") ?_ | refine o_addT (by walk_at "s") ?_ | refine o_addL (by walk_at "s") ?_)
local macro_rules | `(tactic| walk_at "Sub") => `(tactic| refine o_sub ?_)
local macro_rules | `(tactic| walk_at "Mult") => `(tactic| refine o_mul (by walk_at "s") ?_)
local macro_rules | `(tactic| walk_at "Mod") => `(tactic| first | refine o_modN (by walk_at "s") ?_ | refine o_mod (by walk_at "s") ?_)
local macro_rules | `(tactic| walk_at "FloorDiv") => `(tactic| first | refine o_divN (by walk_at "s") ?_ | refine o_div (by walk_at "s") ?_)
local macro_rules | `(tactic| walk_at "Pow") => `(tactic| refine o_pow (by walk_at "s") ?_)
local macro_rules | `(tactic| walk_at "LShift") => `(tactic| refine o_shl (by walk_at "s") ?_)
local macro_rules | `(tactic| walk_at "RShift") => `(tactic| refine o_shr (by walk_at "s") ?_)
local macro_rules | `(tactic| walk_at "BitAnd") => `(tactic| refine o_band ?_)
local macro_rules | `(tactic| walk_at "BitXor") => `(tactic| refine o_bxor ?_)
local macro_rules | `(tactic| walk_at "BitOr") => `(tactic| refine o_bor ?_)
local macro_rules | `(tactic| walk_at "Lt") => `(tactic| refine o_lt ?_)
local macro_rules | `(tactic| walk_at "LtE") => `(tactic| refine o_le ?_)
local macro_rules | `(tactic| walk_at "Gt") => `(tactic| refine o_gt ?_)
local macro_rules | `(tactic| walk_at "GtE") => `(tactic| refine o_ge ?_)
local macro_rules | `(tactic| walk_at "Eq") => `(tactic| refine o_eq (by rfl) ?_)
local macro_rules | `(tactic| walk_at "NotEq") => `(tactic| refine o_ne (by rfl) ?_)
local macro_rules | `(tactic| walk_at "Is") => `(tactic| refine o_isN ?_)
local macro_rules | `(tactic| walk_at "IsNot") => `(tactic| refine o_notN ?_)
local macro_rules | `(tactic| walk_at "In") => `(tactic| refine o_in (by first | exact .inl rfl | exact .inr (.inl rfl) | exact .inr (.inr rfl)) (by rfl) (by rfl) ?_)
local macro_rules | `(tactic| walk_at "NotIn") => `(tactic| refine o_nin (by first | exact .inl rfl | exact .inr (.inl rfl) | exact .inr (.inr rfl)) (by rfl) (by rfl) ?_)
local macro_rules | `(tactic| walk_at "c_abs") => `(tactic| refine c_abs ?_)
local macro_rules | `(tactic| walk_at "c_len") => `(tactic| first | refine c_lenL ?_ | refine c_lenC ?_ | refine c_lenT ?_ | refine c_lenS (by walk_at "s") ?_ | refine c_lenP 0 (by first | assumption | rfl) ?_)
local macro_rules | `(tactic| walk_at "c_str") => `(tactic| refine c_str (by walk_at "s") ?_)
local macro_rules | `(tactic| walk_at "c_isinstance") => `(tactic| refine c_isi rfl (by rfl) ?_)
local macro_rules | `(tactic| walk_at "sl") => `(tactic| first | refine sd_tup ?_ | refine sd_lst ?_)
local macro_rules | `(tactic| walk_at "c_tuple") => `(tactic| first | refine c_tupL ?_ | refine c_tupP 0 (by first | assumption | rfl) ?_ | refine c_tupT ?_)
local macro_rules | `(tactic| walk_at "c_int") => `(tactic| first | refine c_intB ?_)
local macro_rules | `(tactic| walk_at "USub") => `(tactic| refine u_neg ?_)
local macro_rules | `(tactic| walk_at "pen") => `(tactic| first | assumption | exact get_set (by assumption) | exact get_set (get_set (by assumption)) | exact get_here | (apply get_cons; walk_at "pen") | (apply get_app; walk_at "pen"))
local macro_rules | `(tactic| walk_at "mu") => `(tactic| simp only [List.set_cons_succ, List.set_set, List.set_cons_zero])
/-! ### a pair with one thing otherwise -/
theorem memAt {μ ν : Mu} (hs : μ.Sublist ν) {i : Nat} {c : Addr × MO} (h : μ[i]? = some c) : ∃ j : Nat, ν[j]? = some c := List.mem_iff_getElem?.mp (hs.subset (List.mem_of_getElem? h))
mutual
theorem shw_sub {μ ν : Mu} (hs : μ.Sublist ν) : ∀ {d : D} {y : PyData}, ShwD μ d y → ShwD ν d y
  | _, _, .non => .non
  | _, _, .bl b => .bl b
  | _, _, .int i => .int i
  | _, _, .str x => .str x
  | _, _, .tup h => .tup (shws_sub hs h)
  | _, _, .tpl h => .tpl (shws_sub hs h)
  | _, _, .lst h => .lst (shws_sub hs h)
  | _, _, .scr h => .scr (shws_sub hs h)
  | _, _, .ptr hi h => let ⟨_, hj⟩ := memAt hs hi; .ptr hj (shws_sub hs h)
  | _, _, .dk hi h => let ⟨_, hj⟩ := memAt hs hi; .dk hj (shws_sub hs h)
  | _, _, .dt hi h => let ⟨_, hj⟩ := memAt hs hi; .dt hj (shws_sub hs h)
theorem shws_sub {μ ν : Mu} (hs : μ.Sublist ν) : ∀ {ds : List D} {ys : List PyData}, ShwDs μ ds ys → ShwDs ν ds ys
  | _, _, .nil => .nil
  | _, _, .cons h hh => .cons (shw_sub hs h) (shws_sub hs hh)
end
/-- a thing that may stand in a list of pairs, and what it shows -/
def Ew (μ : Mu) (x : D) : Prop := Elem μ x ∧ ∃ y, ShwD μ x y ∧ Td y 30 5
/-- a thing that may stand in a pair -/
def Iw (μ : Mu) (x : D) : Prop := Item μ x ∧ ∃ y, ShwD μ x y ∧ Td y 8 3
theorem Ew.sub {μ ν : Mu} {x : D} (hs : μ.Sublist ν) (h : Ew μ x) : Ew ν x := ⟨h.1.sub hs, let ⟨y, h1, h2⟩ := h.2; ⟨y, shw_sub hs h1, h2⟩⟩
theorem Iw.sub {μ ν : Mu} {x : D} (hs : μ.Sublist ν) (h : Iw μ x) : Iw ν x := ⟨h.1.sub hs, let ⟨y, h1, h2⟩ := h.2; ⟨y, shw_sub hs h1, h2⟩⟩
theorem td_small {i : Int} (h : -999999999999 ≤ i ∧ i ≤ 999999999999) : Td (.int i) 0 0 := (Tm.int h).td
theorem td_big : Td (.int (10 ^ 40)) 0 0 := ⟨by decide +kernel, by decide +kernel, Nat.le_refl _, Nat.le_refl _⟩
theorem td_s0 : Td (.str ("0" : Str)) 8 0 := (Tm.str 8 (by decide +kernel) (by decide +kernel)).td
theorem iw_int {μ : Mu} {i : Int} (h : Td (.int i) 0 0) : Iw μ (.int i) := ⟨.inl ⟨_, rfl⟩, _, .int _, h.mono (by decide) (by decide)⟩
theorem iw_nat {μ : Mu} {a : Nat} (h : a ≤ 100000) : Iw μ (.int (a : Int)) := iw_int (td_small (by omega))
theorem item_cls {μ : Mu} {x : D} {t : String} (h : x.cls = some (.type t)) (h1 : t ∈ KS) (h2 : t ≠ "int") : Item μ x := .inr ⟨t, h1, h2, .inl h⟩
theorem iw_of {μ : Mu} {x : D} {t : String} (h : x.cls = some (.type t)) (h1 : t ∈ KS) (h2 : t ≠ "int") {y : PyData} (hy : ShwD μ x y) (ty : Td y 8 3) : Iw μ x := ⟨item_cls h h1 h2, y, hy, ty⟩
theorem iw_dk {μ : Mu} {q : Addr} {i : Nat} (hi : μ[i]? = some (q, .dk [])) : Iw μ (.ptr q) := ⟨.inr ⟨"dict", by simp, by decide, .inr (.inl ⟨rfl, q, [], rfl, List.mem_of_getElem? hi⟩)⟩, _, .dk hi (.nil), Td.dict0.mono (by decide) (by decide)⟩
theorem ew_of {μ : Mu} {x : D} {t : String} (h : x.cls = some (.type t)) (h1 : t ∈ KS) (h2 : t ≠ "tuple") {y : PyData} (hy : ShwD μ x y) (ty : Td y 30 5) : Ew μ x := ⟨.inl ⟨t, h1, h2, .inl h⟩, y, hy, ty⟩
theorem ew_tup {μ : Mu} {xs : List D} (hl : xs.length ≤ 3) (h : ∀ x ∈ xs, Iw μ x) : Ew μ (.tup xs) := by
  refine ⟨.inr ⟨xs, rfl, by omega, fun x hx => (h x hx).1⟩, ?_⟩
  obtain ⟨ys, h1, h2, h3⟩ := ShwDs.each (b := 8) (d := 3) fun x hx => (h x hx).2
  exact ⟨_, .tup h1, (Td.tup (Tds.all h3)).mono (by rw [h2]; omega) (by decide)⟩
theorem ew_lst {μ : Mu} {q : Addr} {xs : List D} {i : Nat} (hi : μ[i]? = some (q, .lst xs)) (hl : xs.length ≤ 3) (h : ∀ x ∈ xs, Iw μ x) : Ew μ (.ptr q) := by
  refine ⟨.inl ⟨"list", by simp, by decide, .inr (.inr (.inl ⟨rfl, q, xs, rfl, List.mem_of_getElem? hi⟩))⟩, ?_⟩
  obtain ⟨ys, h1, h2, h3⟩ := ShwDs.each (b := 8) (d := 3) fun x hx => (h x hx).2
  exact ⟨_, .ptr hi h1, (Td.lst (Tds.all h3)).mono (by rw [h2]; omega) (by decide)⟩
def GoodAt (P : D → Prop) (ds : List D) (j : Nat) : Prop := ∃ x, ds[j]? = some x ∧ P x
theorem ix_pick {X : Cy} {μ : Mu} {Φ : D → Mu → Prop} {P : D → Prop} {ds : List D} {i : Int} {j : Nat} (hj : i = (j : Int)) (h : GoodAt P ds j) (k : ∀ x, P x → Φ x μ) : wIx X (.lst ds) (.int i) μ Φ := by
  obtain ⟨x, h1, h2⟩ := h
  exact ix_lstD j hj h1 (k x h2)
theorem good_all {P : D → Prop} {ds : List D} {j : Nat} (hj : j < ds.length) (h : ∀ d ∈ ds, P d) : GoodAt P ds j := ⟨ds[j], List.getElem?_eq_getElem hj, h _ (List.getElem_mem hj)⟩
theorem odd_pair {μ : Mu} {q : Addr} {i many : Nat} (hm : many ≤ 1000) (hi : μ[i]? = some (q, .dk [])) : ∀ d ∈ [D.int many, .int (-1), .bl true, .bl false, .non, .str "0", .tup [.int 0], .lst [.int 0], .int (10 ^ 40), .ptr q, .int 99], Iw μ d := by
  intro d hd
  simp only [List.mem_cons, List.not_mem_nil, or_false] at hd
  have t1 : ∀ {y : PyData}, Td y 0 0 → Tds [y] 1 0 := fun h => (Tds.cons h Tds.nil).mono (by decide) (by decide)
  rcases hd with rfl | rfl | rfl | rfl | rfl | rfl | rfl | rfl | rfl | rfl | rfl
  · exact iw_nat (by omega)
  · exact iw_int (td_small (by decide))
  · exact iw_of rfl (t := "bool") (by simp) (by decide) (.bl true) ((Tm.bl true).td.mono (by decide) (by decide))
  · exact iw_of rfl (t := "bool") (by simp) (by decide) (.bl false) ((Tm.bl false).td.mono (by decide) (by decide))
  · exact iw_of rfl (t := "NoneType") (by simp) (by decide) .non (Tm.non.td.mono (by decide) (by decide))
  · exact iw_of rfl (t := "str") (by simp) (by decide) (.str _) (td_s0.mono (by decide) (by decide))
  · exact iw_of rfl (t := "tuple") (by simp) (by decide) (.tup (.cons (.int 0) .nil)) ((Td.tup (t1 (td_small (by decide)))).mono (by decide) (by decide))
  · exact iw_of rfl (t := "list") (by simp) (by decide) (.lst (.cons (.int 0) .nil)) ((Td.lst (t1 (td_small (by decide)))).mono (by decide) (by decide))
  · exact iw_int td_big
  · exact iw_dk hi
  · exact iw_int (td_small (by decide))
def S_bpair : FS := fun ds μ Φ => ∃ (ns : List Int) (n : Nat) (q : Addr) (i : Nat) (p : Nat × Nat) (many : Nat), ds = [.ptr q, natP p, .int many] ∧ μ[i]? = some (q, penW ns n) ∧ n ≤ 900000 ∧ p.1 ≤ 1000 ∧ p.2 ≤ 1000 ∧ many ≤ 1000 ∧
  ∀ (x : D) (c1 c2 : Addr × MO), Ew [c1, c2] x → Φ x (c1 :: c2 :: μ.set i (q, penW ns (n + 3)))
theorem bent_cases {μ : Mu} {d : D} {a b : Nat} {pl : Addr} {at' way : Nat} (ha : a ≤ 1000) (hb : b ≤ 1000) (hd : Iw μ d) (hp : μ[0]? = some (pl, .lst [.int a, .int b])) (hat : at' < 2) (hw : way < 6) {xs ys zs : List D} (hx : xs = ([D.int a, .int b].take at' ++ [d]) ++ [D.int a, .int b].drop (at' + 1)) (hy : ys = [D.int b, .int a]) (hz : zs = [D.int a]) :
    GoodAt (Ew μ) ([.tup xs, .tup xs, .tup ys, .ptr pl] ++ [.tup [.int a, .int b, .int 0], .tup zs]) way := by
  have ia : Iw μ (.int (a : Int)) := iw_nat (by omega)
  have ib : Iw μ (.int (b : Int)) := iw_nat (by omega)
  have i0 : Iw μ (.int 0) := iw_int (td_small (by decide))
  have hxe : ∀ x ∈ xs, Iw μ x := fun x h9 => by
    rw [hx] at h9
    rcases List.mem_append.mp h9 with h9 | h9
    · rcases List.mem_append.mp h9 with h9 | h9
      · have := List.mem_of_mem_take h9
        simp only [List.mem_cons, List.not_mem_nil, or_false] at this
        rcases this with rfl | rfl
        · exact ia
        · exact ib
      · rw [List.mem_singleton] at h9; subst h9; exact hd
    · have := List.mem_of_mem_drop h9
      simp only [List.mem_cons, List.not_mem_nil, or_false] at this
      rcases this with rfl | rfl
      · exact ia
      · exact ib
  have hxl : xs.length ≤ 3 := by
    rw [hx]
    have : at' = 0 ∨ at' = 1 := by omega
    rcases this with rfl | rfl <;> simp
  refine good_all (by show way < 6; exact hw) fun e he => ?_
  simp only [List.cons_append, List.nil_append, List.mem_cons, List.not_mem_nil, or_false] at he
  rcases he with rfl | rfl | rfl | rfl | rfl | rfl
  · exact ew_tup hxl hxe
  · exact ew_tup hxl hxe
  · subst hy
    exact ew_tup (by simp) fun x h9 => by simp only [List.mem_cons, List.not_mem_nil, or_false] at h9; rcases h9 with rfl | rfl; exact ib; exact ia
  · exact ew_lst hp (by simp) fun x h9 => by simp only [List.mem_cons, List.not_mem_nil, or_false] at h9; rcases h9 with rfl | rfl; exact ia; exact ib
  · exact ew_tup (by simp) fun x h9 => by simp only [List.mem_cons, List.not_mem_nil, or_false] at h9; rcases h9 with rfl | rfl | rfl; exact ia; exact ib; exact i0
  · subst hz
    exact ew_tup (by simp) fun x h9 => by simp only [List.mem_cons, List.not_mem_nil, or_false] at h9; subst h9; exact ia
section
variable {P : Program} {w : World} {K : PySem.W.Frag} {mg : Str → Option Value} {base : Heap}
theorem ok_bpair (B : Src K mg "_law_bent_pair" s__law_bent_pair ["_law_pen_here", "_law_pair", "_law_many"]) (T : Tx mg) (G__law_take : KnG P w K mg base 1 "_law_take" ["_law_pen_here", "_law_many"] S_take) : KnG P w K mg base 2 "_law_bent_pair" ["_law_pen_here", "_law_pair", "_law_many"] S_bpair := by
  refine kn_ofG B sc__law_bent_pair (fun ds μ Φ h => by obtain ⟨_, _, _, _, _, _, rfl, _⟩ := h; rfl) fun f cdv A outer s H E grd hr ds μ Φ h => ?_
  obtain ⟨ns, n, q, ip, p, many, rfl, hpen, hn, hp1, hp2, hm, k⟩ := h
  refine wSs_rho (ρ' := [_, _, _, _, _, _, _]) rfl ?_
  -- _law_way = _law_take(_law_pen_here, 6)
  refine w_cons (w_set 3 sc__law_bent_pair.nd rfl (.inl rfl) (.inl rfl) ?_)
  refine w_callG G__law_take hr ?_
  refine wa_cons ?_
  refine w_name 0 rfl (.inl rfl) rfl ?_
  refine wa_cons ?_
  refine w_int ?_
  refine wa_nil ?_
  refine ⟨_, _, _, _, _, rfl, by walk_at "pen", by omega, by omega, fun r1 μ1 hr1 e1 => ?_⟩
  try simp only [List.set_cons_succ, List.set_set, List.set_cons_zero] at e1
  subst e1
  -- _law_at = _law_take(_law_pen_here, 2)
  refine w_cons (w_set 4 sc__law_bent_pair.nd rfl (.inl rfl) (.inl rfl) ?_)
  refine w_callG G__law_take hr ?_
  refine wa_cons ?_
  refine w_name 0 rfl (.inl rfl) rfl ?_
  refine wa_cons ?_
  refine w_int ?_
  refine wa_nil ?_
  refine ⟨_, _, _, _, _, rfl, by walk_at "pen", by omega, by omega, fun r2 μ2 hr2 e2 => ?_⟩
  try simp only [List.set_cons_succ, List.set_set, List.set_cons_zero] at e2
  subst e2
  -- _law_odd = [_law_many, -1, True, False, None, '0', (0,), [0], 10 ** 40, {}, 99][_law_take(_law_pen_here, 11)]
  refine w_cons (w_set 5 sc__law_bent_pair.nd rfl (.inl rfl) (.inl rfl) ?_)
  refine w_ix ?_
  refine w_lst ?_
  refine wa_cons ?_
  refine w_name 2 rfl (.inl rfl) rfl ?_
  refine wa_cons ?_
  refine w_un ?_
  refine w_int ?_
  walk_at "USub"
  refine wa_cons ?_
  refine w_bl ?_
  refine wa_cons ?_
  refine w_bl ?_
  refine wa_cons ?_
  refine w_non ?_
  refine wa_cons ?_
  refine w_str ?_
  refine wa_cons ?_
  refine w_tup ?_
  refine wa_cons ?_
  refine w_int ?_
  refine wa_nil ?_
  refine ⟨by simp, ?_⟩
  refine wa_cons ?_
  refine w_lst ?_
  refine wa_cons ?_
  refine w_int ?_
  refine wa_nil ?_
  refine ⟨by simp, ?_⟩
  refine wa_cons ?_
  refine w_bin ?_
  refine w_int ?_
  refine w_int ?_
  walk_at "Pow"
  refine wa_cons ?_
  refine w_dnew fun q1 => ?_
  refine wa_cons ?_
  refine w_int ?_
  refine wa_nil ?_
  refine ⟨by simp, ?_⟩
  refine w_callG G__law_take hr ?_
  refine wa_cons ?_
  refine w_name 0 rfl (.inl rfl) rfl ?_
  refine wa_cons ?_
  refine w_int ?_
  refine wa_nil ?_
  refine ⟨_, _, _, _, _, rfl, by walk_at "pen", by omega, by omega, fun r3 μ3 hr3 e3 => ?_⟩
  try simp only [List.set_cons_succ, List.set_set, List.set_cons_zero] at e3
  subst e3
  refine ix_pick (P := Iw [(q1, .dk [])]) (j := r3) rfl (good_all (by show r3 < 11; omega) (odd_pair hm (i := 0) rfl)) fun odd hodd => ?_
  -- _law_some = [_law_pair[:_law_at] + (_law_odd,) + _law_pair[_law_at + 1:], _law_pair[:_law_at] + (_law_odd,) + _law_pair[_law_at + 1:], _law_pair[::-1], list(_law_pair)]
  refine w_cons (w_set 6 sc__law_bent_pair.nd rfl (.inl rfl) (.inl rfl) ?_)
  refine w_lst ?_
  refine wa_cons ?_
  refine w_bin ?_
  refine w_bin ?_
  refine w_sl ?_
  refine w_name 1 rfl (.inl rfl) rfl ?_
  refine wo_none ?_
  refine wo_some ?_
  refine w_name 4 rfl (.inl rfl) rfl ?_
  refine ⟨_, rfl, ?_⟩
  refine sd_tup ?_
  rw [cutD_to]
  refine w_tup ?_
  refine wa_cons ?_
  refine w_name 5 rfl (.inl rfl) rfl ?_
  refine wa_nil ?_
  refine ⟨by simp, ?_⟩
  refine o_addT (by simp only [List.length_take, List.length_cons, List.length_nil]; omega) ?_
  refine w_sl ?_
  refine w_name 1 rfl (.inl rfl) rfl ?_
  refine wo_some ?_
  refine w_bin ?_
  refine w_name 4 rfl (.inl rfl) rfl ?_
  refine w_int ?_
  first | refine o_addN (b := 1) ?_ | walk_at "Add"
  refine ⟨_, rfl, ?_⟩
  refine wo_none ?_
  refine sd_tup ?_
  rw [cutD_from]
  refine o_addT (by simp only [List.length_append, List.length_drop, List.length_take, List.length_cons, List.length_nil]; omega) ?_
  refine wa_cons ?_
  refine w_bin ?_
  refine w_bin ?_
  refine w_sl ?_
  refine w_name 1 rfl (.inl rfl) rfl ?_
  refine wo_none ?_
  refine wo_some ?_
  refine w_name 4 rfl (.inl rfl) rfl ?_
  refine ⟨_, rfl, ?_⟩
  refine sd_tup ?_
  rw [cutD_to]
  refine w_tup ?_
  refine wa_cons ?_
  refine w_name 5 rfl (.inl rfl) rfl ?_
  refine wa_nil ?_
  refine ⟨by simp, ?_⟩
  refine o_addT (by simp only [List.length_take, List.length_cons, List.length_nil]; omega) ?_
  refine w_sl ?_
  refine w_name 1 rfl (.inl rfl) rfl ?_
  refine wo_some ?_
  refine w_bin ?_
  refine w_name 4 rfl (.inl rfl) rfl ?_
  refine w_int ?_
  first | refine o_addN (b := 1) ?_ | walk_at "Add"
  refine ⟨_, rfl, ?_⟩
  refine wo_none ?_
  refine sd_tup ?_
  rw [cutD_from]
  refine o_addT (by simp only [List.length_append, List.length_drop, List.length_take, List.length_cons, List.length_nil]; omega) ?_
  refine wa_cons ?_
  refine w_revT ?_
  refine w_name 1 rfl (.inl rfl) rfl ?_
  refine ⟨_, rfl, ?_⟩
  refine wa_cons ?_
  refine w_callTy (T := "list") T.b_list ?_
  refine wa_cons ?_
  refine w_name 1 rfl (.inl rfl) rfl ?_
  refine wa_nil ?_
  refine c_lstT fun pl => ?_
  refine wa_nil ?_
  refine ⟨by simp, ?_⟩
  -- return (_law_some + [_law_pair + (0,), _law_pair[:1]])[_law_way]
  refine w_cons (w_ret ?_)
  refine w_ix ?_
  refine w_bin ?_
  refine w_name 6 rfl (.inl rfl) rfl ?_
  refine w_lst ?_
  refine wa_cons ?_
  refine w_bin ?_
  refine w_name 1 rfl (.inl rfl) rfl ?_
  refine w_tup ?_
  refine wa_cons ?_
  refine w_int ?_
  refine wa_nil ?_
  refine ⟨by simp, ?_⟩
  refine o_addT (by simp) ?_
  refine wa_cons ?_
  refine w_sl ?_
  refine w_name 1 rfl (.inl rfl) rfl ?_
  refine wo_none ?_
  refine wo_some ?_
  refine w_int ?_
  refine ⟨_, rfl, ?_⟩
  refine sd_tup ?_
  refine wa_nil ?_
  refine ⟨by simp, ?_⟩
  refine o_addL (by simp) ?_
  refine w_name 3 rfl (.inl rfl) rfl ?_
  refine ix_pick (P := Ew [(pl, .lst [.int p.1, .int p.2]), (q1, .dk [])]) (j := r1) rfl (bent_cases (a := p.1) (b := p.2) (at' := r2) hp1 hp2 (hodd.sub (List.sublist_cons_self _ _)) rfl (by omega) (by omega) rfl rfl rfl) fun x hx => ?_
  exact k x (pl, .lst [.int p.1, .int p.2]) (q1, .dk []) hx
end
end L16

namespace L16
open PySem PySem.Spec L2 Oc
open Evl (Ex)
local macro_rules | `(tactic| walk_at "s") => `(tactic| first | assumption | omega | decide | (simp only [] at *; omega))
local macro_rules | `(tactic| walk_at "Add") => `(tactic| first | refine o_addN ?_ | refine o_add ?_ | refine o_addS (by walk_at "s") ?_ | refine o_addT (by walk_at "s") ?_ | refine o_addL (by walk_at "s") ?_)
local macro_rules | `(tactic| walk_at "Sub") => `(tactic| refine o_sub ?_)
local macro_rules | `(tactic| walk_at "Mult") => `(tactic| refine o_mul (by walk_at "s") ?_)
local macro_rules | `(tactic| walk_at "Mod") => `(tactic| first | refine o_modN (by walk_at "s") ?_ | refine o_mod (by walk_at "s") ?_)
local macro_rules | `(tactic| walk_at "FloorDiv") => `(tactic| first | refine o_divN (by walk_at "s") ?_ | refine o_div (by walk_at "s") ?_)
local macro_rules | `(tactic| walk_at "Pow") => `(tactic| refine o_pow (by walk_at "s") ?_)
local macro_rules | `(tactic| walk_at "LShift") => `(tactic| refine o_shl (by walk_at "s") ?_)
local macro_rules | `(tactic| walk_at "RShift") => `(tactic| refine o_shr (by walk_at "s") ?_)
local macro_rules | `(tactic| walk_at "BitAnd") => `(tactic| refine o_band ?_)
local macro_rules | `(tactic| walk_at "BitXor") => `(tactic| refine o_bxor ?_)
local macro_rules | `(tactic| walk_at "BitOr") => `(tactic| refine o_bor ?_)
local macro_rules | `(tactic| walk_at "Lt") => `(tactic| refine o_lt ?_)
local macro_rules | `(tactic| walk_at "LtE") => `(tactic| refine o_le ?_)
local macro_rules | `(tactic| walk_at "Gt") => `(tactic| refine o_gt ?_)
local macro_rules | `(tactic| walk_at "GtE") => `(tactic| refine o_ge ?_)
local macro_rules | `(tactic| walk_at "Eq") => `(tactic| refine o_eq (by rfl) ?_)
local macro_rules | `(tactic| walk_at "NotEq") => `(tactic| refine o_ne (by rfl) ?_)
local macro_rules | `(tactic| walk_at "Is") => `(tactic| refine o_isN ?_)
local macro_rules | `(tactic| walk_at "IsNot") => `(tactic| refine o_notN ?_)
local macro_rules | `(tactic| walk_at "In") => `(tactic| refine o_in (by first | exact .inl rfl | exact .inr (.inl rfl) | exact .inr (.inr rfl)) (by rfl) (by rfl) ?_)
local macro_rules | `(tactic| walk_at "NotIn") => `(tactic| refine o_nin (by first | exact .inl rfl | exact .inr (.inl rfl) | exact .inr (.inr rfl)) (by rfl) (by rfl) ?_)
local macro_rules | `(tactic| walk_at "c_abs") => `(tactic| refine c_abs ?_)
local macro_rules | `(tactic| walk_at "c_len") => `(tactic| first | refine c_lenL ?_ | refine c_lenC ?_ | refine c_lenT ?_ | refine c_lenS (by walk_at "s") ?_ | refine c_lenP 0 (by first | assumption | rfl) ?_)
local macro_rules | `(tactic| walk_at "c_str") => `(tactic| refine c_str (by walk_at "s") ?_)
local macro_rules | `(tactic| walk_at "c_isinstance") => `(tactic| refine c_isi rfl (by rfl) ?_)
local macro_rules | `(tactic| walk_at "sl") => `(tactic| first | refine sd_tup ?_ | refine sd_lst ?_)
local macro_rules | `(tactic| walk_at "c_tuple") => `(tactic| first | refine c_tupL ?_ | refine c_tupP 0 (by first | assumption | rfl) ?_ | refine c_tupT ?_)
local macro_rules | `(tactic| walk_at "c_int") => `(tactic| first | refine c_intB ?_)
local macro_rules | `(tactic| walk_at "USub") => `(tactic| refine u_neg ?_)
local macro_rules | `(tactic| walk_at "pen") => `(tactic| first | assumption | exact get_set (by assumption) | exact get_set (get_set (by assumption)) | exact get_here | (apply get_cons; walk_at "pen") | (apply get_app; walk_at "pen"))
local macro_rules | `(tactic| walk_at "mu") => `(tactic| simp only [List.set_cons_succ, List.set_set, List.set_cons_zero])
/-! ### a list of pairs with one thing otherwise -/
theorem ew_nat {μ : Mu} {p : Nat × Nat} (h : p.1 ≤ 1000 ∧ p.2 ≤ 1000) : Ew μ (natP p) := ew_tup (xs := [.int p.1, .int p.2]) (by simp) fun x hx => by
  simp only [List.mem_cons, List.not_mem_nil, or_false] at hx
  rcases hx with rfl | rfl
  · exact iw_nat (by omega)
  · exact iw_nat (by omega)
def Th (μ : Mu) (x : D) (o : Option (List D)) : Prop := StandsAs μ x o ∧ ∃ y, ShwD μ x y ∧ Td y 200000 12
theorem th_list {μ : Mu} {ds : List D} (h : ∀ x ∈ ds, Ew μ x) (hl : ds.length ≤ 6000) : Th μ (.lst ds) (some ds) := by
  refine ⟨.inl ⟨ds, rfl, rfl, by omega, fun x hx => (h x hx).1⟩, ?_⟩
  obtain ⟨ys, h1, h2, h3⟩ := ShwDs.each (b := 30) (d := 5) fun x hx => (h x hx).2
  exact ⟨_, .lst h1, (Td.lst (Tds.all h3)).mono (by rw [h2]; omega) (by decide)⟩
theorem th_tup {μ : Mu} {ds : List D} (h : ∀ x ∈ ds, Ew μ x) (hl : ds.length ≤ 6000) : Th μ (.tup ds) none := by
  refine ⟨.inr ⟨"tuple", by simp, by decide, .inl rfl, rfl⟩, ?_⟩
  obtain ⟨ys, h1, h2, h3⟩ := ShwDs.each (b := 30) (d := 5) fun x hx => (h x hx).2
  exact ⟨_, .tup h1, (Td.tup (Tds.all h3)).mono (by rw [h2]; omega) (by decide)⟩
theorem th_ll {μ : Mu} {ds : List D} (h : ∀ x ∈ ds, Ew μ x) (hl : ds.length ≤ 6000) : Th μ (.lst [.lst ds]) (some [.lst ds]) := by
  refine ⟨.inl ⟨_, rfl, rfl, by simp, fun x hx => ?_⟩, ?_⟩
  · rw [List.mem_singleton] at hx
    subst hx
    exact .inl ⟨"list", by simp, by decide, .inl rfl⟩
  · obtain ⟨ys, h1, h2, h3⟩ := ShwDs.each (b := 30) (d := 5) fun x hx => (h x hx).2
    have t1 : Td (.list ys) 190000 6 := (Td.lst (Tds.all h3)).mono (by rw [h2]; omega) (by decide)
    exact ⟨_, .lst (.cons (.lst h1) .nil), (Td.lst ((Tds.cons t1 Tds.nil).mono (Nat.le_refl _) (Nat.le_refl _))).mono (by decide) (by decide)⟩
theorem th_odd {μ : Mu} {x : D} {t : String} (hk : IsK μ x t) (ht : t ∈ KS) (hn : t ≠ "list") {y : PyData} (hy : ShwD μ x y) (ty : Td y 30 5) : Th μ x none := ⟨.inr ⟨t, ht, hn, hk, rfl⟩, y, hy, ty.mono (by decide) (by decide)⟩
/-- small data, looked at as it is -/
theorem td_by {y : PyData} (h : (y.showable && y.leavesShort 50 && decide (y.bulk ≤ 30) && decide (y.depth ≤ 5)) = true) : Td y 30 5 := by
  rw [Bool.and_eq_true, Bool.and_eq_true, Bool.and_eq_true, decide_eq_true_iff, decide_eq_true_iff] at h
  exact ⟨h.1.1.1, h.1.1.2, h.1.2, h.2⟩
theorem ew_at {μ : Mu} {x : D} {t : String} (h : x.cls = some (.type t)) (h1 : t ∈ KS) (h2 : t ≠ "tuple") {y : PyData} (hy : ShwD μ x y) (ty : Td y 30 5) : Ew μ x := ⟨.inl ⟨t, h1, h2, .inl h⟩, y, hy, ty⟩
def dk01 : List (Key × D) := mergeD [] [(.inl 0, .int 0), (.inl 1, .int 1)]
theorem dk01_eq : dk01 = [(.inl 0, .int 0), (.inl 1, .int 1)] := rfl
theorem odd_elem {μ : Mu} {q1 q2 : Addr} {i1 i2 : Nat} (h1 : μ[i1]? = some (q1, .dk [])) (h2 : μ[i2]? = some (q2, .dk dk01)) : ∀ d ∈ [D.non, .int 0, .tup [], .lst [], .str "00", .bl true, .ptr q1, .tup [.tup [.int 0, .int 0]], .tup [.int 0, .int 0, .int 0], .lst [.int 0, .int 0], .str "", .tup [.non, .non]] ++ [D.ptr q2], Ew μ d := by
  intro d hd
  simp only [List.cons_append, List.nil_append, List.mem_cons, List.not_mem_nil, or_false] at hd
  have i0 : Iw μ (.int 0) := iw_int (td_small (by decide))
  have iN : Iw μ .non := iw_of rfl (t := "NoneType") (by simp) (by decide) .non (Tm.non.td.mono (by decide) (by decide))
  rcases hd with rfl | rfl | rfl | rfl | rfl | rfl | rfl | rfl | rfl | rfl | rfl | rfl | rfl
  · exact ew_at rfl (t := "NoneType") (by simp) (by decide) .non (td_by (by decide +kernel))
  · exact ew_at rfl (t := "int") (by simp) (by decide) (.int 0) (td_by (by decide +kernel))
  · exact ew_tup (by simp) fun x hx => nomatch hx
  · exact ew_at rfl (t := "list") (by simp) (by decide) (.lst .nil) (td_by (by decide +kernel))
  · exact ew_at rfl (t := "str") (by simp) (by decide) (.str _) (td_by (by decide +kernel))
  · exact ew_at rfl (t := "bool") (by simp) (by decide) (.bl _) (td_by (by decide +kernel))
  · exact ⟨.inl ⟨"dict", by simp, by decide, .inr (.inl ⟨rfl, q1, [], rfl, List.mem_of_getElem? h1⟩)⟩, _, .dk h1 .nil, td_by (by decide +kernel)⟩
  · exact ew_tup (by simp) fun x hx => by
      rw [List.mem_singleton] at hx
      subst hx
      exact iw_of rfl (t := "tuple") (by simp) (by decide) (.tup (.cons (.int 0) (.cons (.int 0) .nil))) ⟨by decide +kernel, by decide +kernel, by decide +kernel, by decide +kernel⟩
  · exact ew_tup (by simp) fun x hx => by simp only [List.mem_cons, List.not_mem_nil, or_false, or_self] at hx; subst hx; exact i0
  · exact ew_at rfl (t := "list") (by simp) (by decide) (.lst (.cons (.int 0) (.cons (.int 0) .nil))) (td_by (by decide +kernel))
  · exact ew_at rfl (t := "str") (by simp) (by decide) (.str _) (td_by (by decide +kernel))
  · exact ew_tup (by simp) fun x hx => by simp only [List.mem_cons, List.not_mem_nil, or_false, or_self] at hx; subst hx; exact iN
  · exact ⟨.inl ⟨"dict", by simp, by decide, .inr (.inl ⟨rfl, q2, _, rfl, List.mem_of_getElem? h2⟩)⟩, _, .dk h2 (.cons (.int 0) (.cons (.int 1) .nil)), td_by (by decide +kernel)⟩
theorem odd_thing {μ : Mu} {q1 q2 : Addr} {i1 i2 : Nat} {L : List (Nat × Nat)} (hL : ∀ x ∈ L.map natP, Ew μ x) (hl : (L.map natP).length ≤ 6000) (h1 : μ[i1]? = some (q1, .dk [])) (h2 : μ[i2]? = some (q2, .dt [(pk2 (0, 0), .bl true)])) : ∀ d ∈ [D.tup (L.map natP), .non, .ptr q1, .str "", .int 0, .bl true, .tup [.int 0, .int 0], .tup [], .lst [], .lst [.lst []], .str "pairs", .lst [.lst (L.map natP)]] ++ [D.ptr q2], ∃ o, Th μ d o ∧ ∀ ds, o = some ds → ds.length ≤ 600 := by
  intro d hd
  simp only [List.cons_append, List.nil_append, List.mem_cons, List.not_mem_nil, or_false] at hd
  have hn : ∀ ds : List D, (none : Option (List D)) = some ds → ds.length ≤ 600 := fun _ z => nomatch z
  have i0 : Ew μ (.int 0) := ew_at rfl (t := "int") (by simp) (by decide) (.int 0) (td_by (by decide +kernel))
  rcases hd with rfl | rfl | rfl | rfl | rfl | rfl | rfl | rfl | rfl | rfl | rfl | rfl | rfl
  · exact ⟨_, th_tup hL hl, hn⟩
  · exact ⟨_, th_odd (.inl rfl) (t := "NoneType") (by simp) (by decide) .non (td_by (by decide +kernel)), hn⟩
  · exact ⟨_, th_odd (.inr (.inl ⟨rfl, q1, [], rfl, List.mem_of_getElem? h1⟩)) (t := "dict") (by simp) (by decide) (.dk h1 .nil) (td_by (by decide +kernel)), hn⟩
  · exact ⟨_, th_odd (.inl rfl) (t := "str") (by simp) (by decide) (.str _) (td_by (by decide +kernel)), hn⟩
  · exact ⟨_, th_odd (.inl rfl) (t := "int") (by simp) (by decide) (.int _) (td_by (by decide +kernel)), hn⟩
  · exact ⟨_, th_odd (.inl rfl) (t := "bool") (by simp) (by decide) (.bl _) (td_by (by decide +kernel)), hn⟩
  · exact ⟨_, th_tup (fun x hx => by simp only [List.mem_cons, List.not_mem_nil, or_false, or_self] at hx; subst hx; exact i0) (by simp), hn⟩
  · exact ⟨_, th_tup (fun x hx => nomatch hx) (by simp), hn⟩
  · exact ⟨_, th_list (fun x hx => nomatch hx) (by simp), fun ds z => by cases z; simp⟩
  · exact ⟨_, th_ll (fun x hx => nomatch hx) (by simp), fun ds z => by cases z; simp⟩
  · exact ⟨_, th_odd (.inl rfl) (t := "str") (by simp) (by decide) (.str _) (td_by (by decide +kernel)), hn⟩
  · exact ⟨_, th_ll hL hl, fun ds z => by cases z; simp⟩
  · exact ⟨_, th_odd (.inr (.inr (.inr ⟨rfl, q2, _, rfl, List.mem_of_getElem? h2⟩))) (t := "dict") (by simp) (by decide) (.dt h2 (.cons (.bl true) .nil)) (td_by (by decide +kernel)), hn⟩
def S_bent16 : FS := fun ds μ Φ => ∃ (ns : List Int) (n : Nat) (qp : Addr) (i : Nat) (L : List (Nat × Nat)) (M N : Mach), ds = [.ptr qp, .lst (L.map natP), machD M, machD N] ∧ μ[i]? = some (qp, penW ns n) ∧ n ≤ 800000 ∧ M.Ok 24 ∧ N.Ok 24 ∧ 0 < L.length ∧ L.length ≤ 5000 ∧ (∀ p ∈ L, p.1 ≤ 1000 ∧ p.2 ≤ 1000) ∧
  ∀ (d : D) (o : Option (List D)) (ν : Mu) (c : Nat), Th (ν ++ μ.set i (qp, penW ns c)) d o → (∀ ds, o = some ds → ds.length ≤ L.length + 600) → c ≤ n + 8 + L.length → Φ d (ν ++ μ.set i (qp, penW ns c))
theorem nat_le {L : List (Nat × Nat)} (h : ∀ p ∈ L, p.1 ≤ 1000 ∧ p.2 ≤ 1000) {μ : Mu} : ∀ x ∈ L.map natP, Ew μ x := fun x hx => by
  obtain ⟨p, hp, rfl⟩ := List.mem_map.mp hx
  exact ew_nat (h p hp)
theorem th_set {μ c : Mu} {L : List (Nat × Nat)} (hE : ∀ x ∈ L.map natP, Ew (c ++ μ) x) (hl : (L.map natP).length ≤ 5000) (r : Nat) {x : D} (hx : Ew c x) : Th (c ++ μ) (.lst ((L.map natP).set r x)) (some ((L.map natP).set r x)) :=
  th_list (fun y hy => (List.mem_or_eq_of_mem_set hy).elim (hE y) fun e => by rw [e]; exact hx.sub (List.sublist_append_left _ _)) (by rw [List.length_set]; omega)
section
variable {P : Program} {w : World} {K : PySem.W.Frag} {mg : Str → Option Value} {base : Heap}
theorem ok_bent16 (B : Src K mg "_law_bent" s__law_bent ["_law_pen_here", "_law_pairs", "_law_machine_here", "_law_other_here"]) (T : Tx mg) (G__law_take : KnG P w K mg base 1 "_law_take" ["_law_pen_here", "_law_many"] S_take) (G__law_order : KnG P w K mg base 2 "_law_order" ["_law_pen_here", "_law_many"] S_order) (G__law_bent_pair : KnG P w K mg base 2 "_law_bent_pair" ["_law_pen_here", "_law_pair", "_law_many"] S_bpair) : KnG P w K mg base 3 "_law_bent" ["_law_pen_here", "_law_pairs", "_law_machine_here", "_law_other_here"] S_bent16 := by
  refine kn_ofG B sc__law_bent (fun ds μ Φ h => by obtain ⟨_, _, _, _, _, _, _, rfl, _⟩ := h; rfl) fun f cdv A outer s H E grd hr ds μ Φ h => ?_
  obtain ⟨ns, n, qp, ip, L, M, N, rfl, hpen, hn, hM, hN, hL0, hLl, hLn, k⟩ := h
  have hu := hu_of hr.r
  have hr0 := hM.r0
  have hr24 := hM.rm
  have hs0 := hN.r0
  have hs24 := hN.rm
  have hE : ∀ (μ' : Mu) (x : D), x ∈ L.map natP → Ew μ' x := fun μ' => nat_le hLn
  refine wSs_rho (ρ' := [_, _, _, _, _, _, _, _, _, _, _, _]) rfl ?_
  -- _law_way = _law_take(_law_pen_here, 10)
  refine w_cons (w_set 4 sc__law_bent.nd rfl (.inl rfl) (.inl rfl) ?_)
  refine w_callG G__law_take hr ?_
  refine wa_cons ?_
  refine w_name 0 rfl (.inl rfl) rfl ?_
  refine wa_cons ?_
  refine w_int ?_
  refine wa_nil ?_
  refine ⟨_, _, _, _, _, rfl, by walk_at "pen", by omega, by omega, fun r1 μ1 hr1 e1 => ?_⟩
  try simp only [List.set_cons_succ, List.set_set, List.set_cons_zero] at e1
  subst e1
  -- _law_at = _law_take(_law_pen_here, len(_law_pairs))
  refine w_cons (w_set 5 sc__law_bent.nd rfl (.inl rfl) (.inl rfl) ?_)
  refine w_callG G__law_take hr ?_
  refine wa_cons ?_
  refine w_name 0 rfl (.inl rfl) rfl ?_
  refine wa_cons ?_
  refine w_callB (id := "len") T.b_len ?_
  refine wa_cons ?_
  refine w_name 1 rfl (.inr (.inl rfl)) rfl ?_
  refine wa_nil ?_
  walk_at "c_len"
  try rw [List.length_map]
  refine wa_nil ?_
  refine ⟨_, _, _, _, _, rfl, by walk_at "pen", by omega, by omega, fun r2 μ2 hr2 e2 => ?_⟩
  try simp only [List.set_cons_succ, List.set_set, List.set_cons_zero] at e2
  subst e2
  -- _law_more = (_law_take(_law_pen_here, len(_law_machine_here[1])), _law_take(_law_pen_here, len(_law_other_here[1])))
  refine w_cons (w_set 6 sc__law_bent.nd rfl (.inl rfl) (.inl rfl) ?_)
  refine w_tup ?_
  refine wa_cons ?_
  refine w_callG G__law_take hr ?_
  refine wa_cons ?_
  refine w_name 0 rfl (.inl rfl) rfl ?_
  refine wa_cons ?_
  refine w_callB (id := "len") T.b_len ?_
  refine wa_cons ?_
  refine w_ix ?_
  refine w_name 2 rfl (.inl rfl) rfl ?_
  refine w_int ?_
  first | refine ix_tupD 1 rfl rfl ?_ | refine ix_lstD 1 rfl rfl ?_ | refine ix_tupD 1 rfl (by assumption) ?_ | refine ix_lstD 1 rfl (by assumption) ?_ | refine ix_ptrD 0 rfl 1 rfl rfl ?_ | refine ix_ptrD 1 rfl 1 rfl rfl ?_ | refine ix_ptrD 2 rfl 1 rfl rfl ?_
  refine wa_nil ?_
  walk_at "c_len"
  try rw [List.length_map]
  refine wa_nil ?_
  refine ⟨_, _, _, _, _, rfl, by walk_at "pen", by omega, by omega, fun r3 μ3 hr3 e3 => ?_⟩
  try simp only [List.set_cons_succ, List.set_set, List.set_cons_zero] at e3
  subst e3
  refine wa_cons ?_
  refine w_callG G__law_take hr ?_
  refine wa_cons ?_
  refine w_name 0 rfl (.inl rfl) rfl ?_
  refine wa_cons ?_
  refine w_callB (id := "len") T.b_len ?_
  refine wa_cons ?_
  refine w_ix ?_
  refine w_name 3 rfl (.inl rfl) rfl ?_
  refine w_int ?_
  first | refine ix_tupD 1 rfl rfl ?_ | refine ix_lstD 1 rfl rfl ?_ | refine ix_tupD 1 rfl (by assumption) ?_ | refine ix_lstD 1 rfl (by assumption) ?_ | refine ix_ptrD 0 rfl 1 rfl rfl ?_ | refine ix_ptrD 1 rfl 1 rfl rfl ?_ | refine ix_ptrD 2 rfl 1 rfl rfl ?_
  refine wa_nil ?_
  walk_at "c_len"
  try rw [List.length_map]
  refine wa_nil ?_
  refine ⟨_, _, _, _, _, rfl, by walk_at "pen", by omega, by omega, fun r4 μ4 hr4 e4 => ?_⟩
  try simp only [List.set_cons_succ, List.set_set, List.set_cons_zero] at e4
  subst e4
  refine wa_nil ?_
  refine ⟨by simp, ?_⟩
  -- _law_odd = _law_take(_law_pen_here, 13)
  refine w_cons (w_set 7 sc__law_bent.nd rfl (.inl rfl) (.inl rfl) ?_)
  refine w_callG G__law_take hr ?_
  refine wa_cons ?_
  refine w_name 0 rfl (.inl rfl) rfl ?_
  refine wa_cons ?_
  refine w_int ?_
  refine wa_nil ?_
  refine ⟨_, _, _, _, _, rfl, by walk_at "pen", by omega, by omega, fun r5 μ5 hr5 e5 => ?_⟩
  try simp only [List.set_cons_succ, List.set_set, List.set_cons_zero] at e5
  subst e5
  -- _law_found = list(_law_pairs)
  refine w_cons (w_set 8 sc__law_bent.nd rfl (.inl rfl) (.inl rfl) ?_)
  refine w_callTy (T := "list") T.b_list ?_
  refine wa_cons ?_
  refine w_name 1 rfl (.inr (.inl rfl)) rfl ?_
  refine wa_nil ?_
  refine c_lstL fun pf => ?_
  obtain ⟨pr, hpr, hprm⟩ := get_of_lt (show r2 < L.length by omega)
  have hprn := hLn pr hprm
  -- if _law_way < 3:
  refine w_cutV [8, 9] (fun vs μ' => ∃ (d : D) (o : Option (List D)) (ν : Mu) (c : Nat) (w9 : Option D), (Th (ν ++ μ.set ip (qp, penW ns c)) d o) ∧ (∀ ds, o = some ds → ds.length ≤ L.length + 600) ∧ (c ≤ n + 8 + L.length) ∧ vs = [some (d), w9] ∧ ν ++ μ.set ip (qp, penW ns c) = μ') (w_if ?_) ?_
  · refine wt_cmp ?_
    refine w_name 4 rfl (.inl rfl) rfl ?_
    refine w_int ?_
    walk_at "Lt"
    refine ⟨_, rfl, ?_⟩
    refine ⟨fun hb => ?_, fun hb => ?_⟩
    · -- _law_found.pop(_law_at)
      refine w_cons (w_expr ?_)
      refine w_popAt ?_
      refine w_name 8 rfl (.inl rfl) rfl ?_
      first | refine ⟨.inl ⟨rfl, 0, _, rfl⟩, ?_⟩ | refine ⟨.inl ⟨rfl, 1, _, rfl⟩, ?_⟩ | refine ⟨.inl ⟨rfl, 2, _, rfl⟩, ?_⟩ | refine ⟨.inl ⟨rfl, 3, _, rfl⟩, ?_⟩ | refine ⟨rfl, ?_⟩
      refine wa_cons ?_
      refine w_name 5 rfl (.inl rfl) rfl ?_
      refine wa_nil ?_
      refine m_popAt 0 rfl r2 (map_at hpr) (by rw [List.length_map]; omega) ?_
      refine wSs_fz (i := 0) (j := 8) rfl rfl ?_
      refine w_nil ?_
      have hT1 : Th (μ.set ip (qp, penW ns (n + 1 + 1 + 1 + 1 + 1))) (.lst ((L.map natP).eraseIdx r2)) (some ((L.map natP).eraseIdx r2)) := th_list (fun x hx => hE _ x (List.mem_of_mem_eraseIdx hx)) (Nat.le_trans (List.length_eraseIdx_le _ _) (by rw [List.length_map]; omega))
      exact ⟨[_, _], rfl, ⟨_, _, [], _, _, hT1, (fun ds z => by cases z; exact Nat.le_trans (List.length_eraseIdx_le _ _) (by rw [List.length_map]; omega)), (by omega), rfl, rfl⟩⟩
    · -- if _law_way == 3:
      refine w_cons (w_if ?_)
      refine wt_cmp ?_
      refine w_name 4 rfl (.inl rfl) rfl ?_
      refine w_int ?_
      walk_at "Eq"
      refine ⟨_, rfl, ?_⟩
      refine ⟨fun hb => ?_, fun hb => ?_⟩
      · -- _law_found.insert(_law_at, _law_more)
        refine w_cons (w_expr ?_)
        refine w_insert ?_
        refine w_name 8 rfl (.inl rfl) rfl ?_
        first | refine ⟨.inl ⟨rfl, 0, _, rfl⟩, ?_⟩ | refine ⟨.inl ⟨rfl, 1, _, rfl⟩, ?_⟩ | refine ⟨.inl ⟨rfl, 2, _, rfl⟩, ?_⟩ | refine ⟨.inl ⟨rfl, 3, _, rfl⟩, ?_⟩ | refine ⟨rfl, ?_⟩
        refine wa_cons ?_
        refine w_name 5 rfl (.inl rfl) rfl ?_
        refine wa_cons ?_
        refine w_name 6 rfl (.inl rfl) rfl ?_
        refine wa_nil ?_
        refine m_insert (d := natP (r3, r4)) 0 rfl r2 (by omega) (by rw [List.length_map]; omega) ?_
        refine wSs_fz (i := 0) (j := 8) rfl rfl ?_
        refine w_nil ?_
        refine w_nil ?_
        have hT2 : Th (μ.set ip (qp, penW ns (n + 1 + 1 + 1 + 1 + 1))) (.lst ((L.map natP).take r2 ++ [natP (r3, r4)] ++ (L.map natP).drop r2)) (some ((L.map natP).take r2 ++ [natP (r3, r4)] ++ (L.map natP).drop r2)) := th_list (fun x hx => by
          rcases List.mem_append.mp hx with hx | hx
          · rcases List.mem_append.mp hx with hx | hx
            · exact hE _ x (List.mem_of_mem_take hx)
            · rw [List.mem_singleton] at hx; subst hx; exact ew_nat ⟨by show r3 ≤ 1000; omega, by show r4 ≤ 1000; omega⟩
          · exact hE _ x (List.mem_of_mem_drop hx)) (by simp only [List.length_append, List.length_take, List.length_drop, List.length_map, List.length_cons, List.length_nil]; omega)
        exact ⟨[_, _], rfl, ⟨_, _, [], _, _, hT2, (fun ds z => by cases z; simp only [List.length_append, List.length_take, List.length_drop, List.length_map, List.length_cons, List.length_nil]; omega), (by omega), rfl, rfl⟩⟩
      · -- if _law_way == 4:
        refine w_cons (w_if ?_)
        refine wt_cmp ?_
        refine w_name 4 rfl (.inl rfl) rfl ?_
        refine w_int ?_
        walk_at "Eq"
        refine ⟨_, rfl, ?_⟩
        refine ⟨fun hb => ?_, fun hb => ?_⟩
        · -- _law_found[_law_at] = _law_bent_pair(_law_pen_here, _law_pairs[_law_at], len(_law_machine_here[1]))
          refine w_cons (w_lset ?_)
          refine w_callG G__law_bent_pair hr ?_
          refine wa_cons ?_
          refine w_name 0 rfl (.inl rfl) rfl ?_
          refine wa_cons ?_
          refine w_ix ?_
          refine w_name 1 rfl (.inr (.inl rfl)) rfl ?_
          refine w_name 5 rfl (.inl rfl) rfl ?_
          refine ix_lstD r2 rfl (map_at hpr) ?_
          refine wa_cons ?_
          refine w_callB (id := "len") T.b_len ?_
          refine wa_cons ?_
          refine w_ix ?_
          refine w_name 2 rfl (.inl rfl) rfl ?_
          refine w_int ?_
          first | refine ix_tupD 1 rfl rfl ?_ | refine ix_lstD 1 rfl rfl ?_ | refine ix_tupD 1 rfl (by assumption) ?_ | refine ix_lstD 1 rfl (by assumption) ?_ | refine ix_ptrD 0 rfl 1 rfl rfl ?_ | refine ix_ptrD 1 rfl 1 rfl rfl ?_ | refine ix_ptrD 2 rfl 1 rfl rfl ?_
          refine wa_nil ?_
          walk_at "c_len"
          try rw [List.length_map]
          refine wa_nil ?_
          refine ⟨ns, n + 1 + 1 + 1 + 1 + 1, qp, ip + 1, pr, M.rooms.length, rfl, by walk_at "pen", by omega, hprn.1, hprn.2, by omega, fun x c1 c2 hx => ?_⟩
          rw [show ((pf, MO.lst (L.map natP)) :: μ.set ip (qp, penW ns (n + 1 + 1 + 1 + 1 + 1))).set (ip + 1) (qp, penW ns (n + 1 + 1 + 1 + 1 + 1 + 3)) = (pf, MO.lst (L.map natP)) :: μ.set ip (qp, penW ns (n + 1 + 1 + 1 + 1 + 1 + 3)) from by rw [List.set_cons_succ, List.set_set]]
          refine w_name 8 rfl (.inl rfl) rfl ?_
          refine w_name 5 rfl (.inl rfl) rfl ?_
          refine ⟨pf, 2, _, r2, rfl, rfl, rfl, by rw [List.length_map]; omega, ?_⟩
          refine wSs_fz (i := 2) (j := 8) rfl rfl ?_
          refine w_nil ?_
          refine w_nil ?_
          refine w_nil ?_
          have hT3 := th_set (c := [c1, c2]) (hE _) (Nat.le_trans (Nat.le_of_eq (List.length_map _)) hLl) r2 hx (μ := μ.set ip (qp, penW ns (n + 1 + 1 + 1 + 1 + 1 + 3)))
          exact ⟨[_, _], rfl, ⟨_, _, [c1, c2], _, _, hT3, (fun ds z => by cases z; rw [List.length_set, List.length_map]; omega), (by omega), rfl, rfl⟩⟩
        · -- if _law_way == 5:
          refine w_cons (w_if ?_)
          refine wt_cmp ?_
          refine w_name 4 rfl (.inl rfl) rfl ?_
          refine w_int ?_
          walk_at "Eq"
          refine ⟨_, rfl, ?_⟩
          refine ⟨fun hb => ?_, fun hb => ?_⟩
          · -- _law_some = [None, 0, (), [], '00', True, {}, ((0, 0),), (0, 0, 0), [0, 0], '', (None, None)]
            refine w_cons ?_
            refine w_set 9 ?_ ?_ ?_ ?_ ?_
            exact sc__law_bent.nd
            rfl
            exact .inl rfl
            exact .inl rfl
            refine w_lst ?_
            refine wa_cons ?_
            refine w_non ?_
            refine wa_cons ?_
            refine w_int ?_
            refine wa_cons ?_
            refine w_tup ?_
            refine wa_nil ?_
            refine ⟨by simp, ?_⟩
            refine wa_cons ?_
            refine w_lst ?_
            refine wa_nil ?_
            refine ⟨by simp, ?_⟩
            refine wa_cons ?_
            refine w_str ?_
            refine wa_cons ?_
            refine w_bl ?_
            refine wa_cons ?_
            refine w_dnew fun q1 => ?_
            refine wa_cons ?_
            refine w_tup ?_
            refine wa_cons ?_
            refine w_tup ?_
            refine wa_cons ?_
            refine w_int ?_
            refine wa_cons ?_
            refine w_int ?_
            refine wa_nil ?_
            refine ⟨by simp, ?_⟩
            refine wa_nil ?_
            refine ⟨by simp, ?_⟩
            refine wa_cons ?_
            refine w_tup ?_
            refine wa_cons ?_
            refine w_int ?_
            refine wa_cons ?_
            refine w_int ?_
            refine wa_cons ?_
            refine w_int ?_
            refine wa_nil ?_
            refine ⟨by simp, ?_⟩
            refine wa_cons ?_
            refine w_lst ?_
            refine wa_cons ?_
            refine w_int ?_
            refine wa_cons ?_
            refine w_int ?_
            refine wa_nil ?_
            refine ⟨by simp, ?_⟩
            refine wa_cons ?_
            refine w_str ?_
            refine wa_cons ?_
            refine w_tup ?_
            refine wa_cons ?_
            refine w_non ?_
            refine wa_cons ?_
            refine w_non ?_
            refine wa_nil ?_
            refine ⟨by simp, ?_⟩
            refine wa_nil ?_
            refine ⟨by simp, ?_⟩
            -- _law_found[_law_at] = (_law_some + [{0: 0, 1: 1}])[_law_odd]
            refine w_cons (w_lset ?_)
            refine w_ix ?_
            refine w_bin ?_
            refine w_name 9 rfl (.inl rfl) rfl ?_
            refine w_lst ?_
            refine wa_cons ?_
            refine w_disp (by decide) (by decide) (by decide) (by decide) fun q2 => ?_
            refine w_int ?_
            refine w_int ?_
            refine w_int ?_
            refine w_int ?_
            refine ⟨[(.inl 0, .int 0), (.inl 1, .int 1)], _, rfl, by decide, rfl, ?_⟩
            refine wa_nil ?_
            refine ⟨by simp, ?_⟩
            refine o_addL (by simp) ?_
            refine w_name 7 rfl (.inl rfl) rfl ?_
            refine ix_pick (P := Ew [(q2, .dk dk01), (q1, .dk [])]) (j := r5) rfl (good_all (by show r5 < 13; omega) (odd_elem (i1 := 1) (i2 := 0) rfl rfl)) fun x hx => ?_
            refine w_name 8 rfl (.inl rfl) rfl ?_
            refine w_name 5 rfl (.inl rfl) rfl ?_
            refine ⟨pf, 2, _, r2, rfl, rfl, rfl, by rw [List.length_map]; omega, ?_⟩
            refine wSs_fz (i := 2) (j := 8) rfl rfl ?_
            refine w_nil ?_
            refine w_nil ?_
            refine w_nil ?_
            refine w_nil ?_
            have hT4 := th_set (c := [(q2, MO.dk dk01), (q1, .dk [])]) (hE _) (Nat.le_trans (Nat.le_of_eq (List.length_map _)) hLl) r2 hx (μ := μ.set ip (qp, penW ns (n + 1 + 1 + 1 + 1 + 1)))
            exact ⟨[_, _], rfl, ⟨_, _, [(q2, .dk dk01), (q1, .dk [])], _, _, hT4, (fun ds z => by cases z; rw [List.length_set, List.length_map]; omega), (by omega), rfl, rfl⟩⟩
          · -- if _law_way == 6:
            refine w_cons (w_if ?_)
            refine wt_cmp ?_
            refine w_name 4 rfl (.inl rfl) rfl ?_
            refine w_int ?_
            walk_at "Eq"
            refine ⟨_, rfl, ?_⟩
            refine ⟨fun hb => ?_, fun hb => ?_⟩
            · -- _law_some = [tuple(_law_pairs), None, {}, '', 0, True, (0, 0), (), [], [[]], 'pairs', [_law_pairs]]
              refine w_cons ?_
              refine w_set 9 ?_ ?_ ?_ ?_ ?_
              exact sc__law_bent.nd
              rfl
              exact .inl rfl
              exact .inl rfl
              refine w_lst ?_
              refine wa_cons ?_
              refine w_callTy (T := "tuple") T.b_tuple ?_
              refine wa_cons ?_
              refine w_name 1 rfl (.inr (.inl rfl)) rfl ?_
              refine wa_nil ?_
              walk_at "c_tuple"
              refine wa_cons ?_
              refine w_non ?_
              refine wa_cons ?_
              refine w_dnew fun q3 => ?_
              refine wa_cons ?_
              refine w_str ?_
              refine wa_cons ?_
              refine w_int ?_
              refine wa_cons ?_
              refine w_bl ?_
              refine wa_cons ?_
              refine w_tup ?_
              refine wa_cons ?_
              refine w_int ?_
              refine wa_cons ?_
              refine w_int ?_
              refine wa_nil ?_
              refine ⟨by simp, ?_⟩
              refine wa_cons ?_
              refine w_tup ?_
              refine wa_nil ?_
              refine ⟨by simp, ?_⟩
              refine wa_cons ?_
              refine w_lst ?_
              refine wa_nil ?_
              refine ⟨by simp, ?_⟩
              refine wa_cons ?_
              refine w_lst ?_
              refine wa_cons ?_
              refine w_lst ?_
              refine wa_nil ?_
              refine ⟨by simp, ?_⟩
              refine wa_nil ?_
              refine ⟨by simp, ?_⟩
              refine wa_cons ?_
              refine w_str ?_
              refine wa_cons ?_
              refine w_lst ?_
              refine wa_cons ?_
              refine w_name 1 rfl (.inr (.inl rfl)) rfl ?_
              refine wa_nil ?_
              refine ⟨by simp, ?_⟩
              refine wa_nil ?_
              refine ⟨by simp, ?_⟩
              -- _law_found = (_law_some + [{(0, 0): True}])[_law_odd]
              refine w_cons (w_set 8 sc__law_bent.nd rfl (.inl rfl) (.inl rfl) ?_)
              refine w_ix ?_
              refine w_bin ?_
              refine w_name 9 rfl (.inl rfl) rfl ?_
              refine w_lst ?_
              refine wa_cons ?_
              refine w_dispT hu fun q => ?_
              refine w_tup ?_
              refine wa_cons ?_
              refine w_int ?_
              refine wa_cons ?_
              refine w_int ?_
              refine wa_nil ?_
              refine ⟨by simp, ?_⟩
              refine w_bl ?_
              refine ⟨pk2 (0, 0), _, rfl, rfl, ?_⟩
              refine wa_nil ?_
              refine ⟨by simp, ?_⟩
              refine o_addL (by simp) ?_
              refine w_name 7 rfl (.inl rfl) rfl ?_
              refine ix_pick (P := fun d => ∃ o, Th ((q, .dt [(pk2 (0, 0), .bl true)]) :: (q3, .dk []) :: (pf, .lst (L.map natP)) :: μ.set ip (qp, penW ns (n + 1 + 1 + 1 + 1 + 1))) d o ∧ ∀ ds, o = some ds → ds.length ≤ 600) (j := r5) rfl (good_all (by show r5 < 13; omega) (odd_thing (i1 := 1) (i2 := 0) (hE _) (by rw [List.length_map]; omega) rfl rfl)) fun x hx => ?_
              obtain ⟨o6, hx6, ho6⟩ := hx
              refine w_nil ?_
              refine w_nil ?_
              refine w_nil ?_
              refine w_nil ?_
              refine w_nil ?_
              exact ⟨[_, _], rfl, ⟨x, o6, [(q, .dt [(pk2 (0, 0), .bl true)]), (q3, .dk []), (pf, .lst (L.map natP))], _, _, hx6, (fun ds z => Nat.le_trans (ho6 ds z) (by omega)), (by omega), rfl, rfl⟩⟩
            · -- if _law_way == 7:
              refine w_cons (w_if ?_)
              refine wt_cmp ?_
              refine w_name 4 rfl (.inl rfl) rfl ?_
              refine w_int ?_
              walk_at "Eq"
              refine ⟨_, rfl, ?_⟩
              refine ⟨fun hb => ?_, fun hb => ?_⟩
              · -- _law_found = [_law_pair for _law_pair in _law_pairs if _law_pair != (0, 0)]
                refine w_cons (w_setLc (own := [("_law_pair", 10)]) 8 (.one 10) (by decide) rfl sc__law_bent.nd rfl rfl (blkOk_by (N := N__law_bent) (sc := defScope s__law_bent) (by decide +kernel)) (sw_true rfl rfl rfl (by decide +kernel)) (fun _ _ _ _ _ => pg_name (i := 10) sc__law_bent.nd rfl (by first | exact .inl rfl | exact .inr rfl)) ?_)
                refine lcW_of ?_
                refine wi_lst ?_
                refine w_name 1 rfl (.inr (.inl rfl)) rfl ?_
                refine ⟨_, rfl, ?_⟩
                refine lcq_filt (L) _ ((fun p => !PyData.eqv (natP p).py (natP (0, 0)).py)) (natP) rfl (by first | omega | (simp only [List.length_map, List.length_range]; omega) | (simp; omega)) ?_ ?_
                · intro p_pair ipair pair hpair
                  refine ⟨[_, _, _, _, _, _, _, _, _, _, _, _], rfl, fun _ _ _ _ _ => ?_, fun hq _ _ _ _ _ => ?_⟩
                  · refine wt_cmp ?_
                    refine w_name 10 rfl (.inl rfl) rfl ?_
                    refine w_tup ?_
                    refine wa_cons ?_
                    refine w_int ?_
                    refine wa_cons ?_
                    refine w_int ?_
                    refine wa_nil ?_
                    refine ⟨by simp, ?_⟩
                    refine o_neY hr.units (n := 1) (m := 1) (ly_natP _) (ly_natP (0, 0)) ?_
                    refine ⟨_, rfl, ?_⟩
                    exact ⟨rfl, rfl⟩
                  refine w_name 10 rfl (.inl rfl) rfl ?_
                  exact ⟨rfl, rfl⟩
                intro p_c
                refine ⟨_, _, _, rfl, rfl, .inl ?_⟩
                refine w_nil ?_
                refine w_nil ?_
                refine w_nil ?_
                refine w_nil ?_
                refine w_nil ?_
                refine w_nil ?_
                have hT6 := th_list (μ := (pf, .lst (L.map natP)) :: μ.set ip (qp, penW ns (n + 1 + 1 + 1 + 1 + 1))) (ds := (L.filter fun p => !PyData.eqv (natP p).py (natP (0, 0)).py).map natP) (fun x hx => by
                  obtain ⟨p, hp, rfl⟩ := List.mem_map.mp hx
                  exact ew_nat (hLn p (List.mem_filter.mp hp).1)) (by rw [List.length_map]; have := List.length_filter_le (fun p => !PyData.eqv (natP p).py (natP (0, 0)).py) L; omega)
                exact ⟨[_, _], rfl, ⟨_, _, [(pf, .lst (L.map natP))], _, _, hT6, (fun ds z => by cases z; rw [List.length_map]; have := List.length_filter_le (fun p => !PyData.eqv (natP p).py (natP (0, 0)).py) L; omega), (by omega), rfl, rfl⟩⟩
              · -- if _law_way == 8 and len(_law_pairs) < 290:
                refine w_cons (w_if ?_)
                refine wt_mono (Ψ := (fun b μ1 => μ1 = (pf, .lst (L.map natP)) :: μ.set ip (qp, penW ns (n + 1 + 1 + 1 + 1 + 1)) ∧ (b = true → L.length < 290))) ?_ ?_
                · refine wt_w ?_
                  refine ww_and ?_
                  refine wt_cmp ?_
                  refine w_name 4 rfl (.inl rfl) rfl ?_
                  refine w_int ?_
                  walk_at "Eq"
                  refine ⟨_, rfl, ?_⟩
                  refine ⟨fun hb0 => ?_, fun hb0 => ?_⟩
                  rotate_left
                  · exact ⟨rfl, fun z => (nomatch z)⟩
                  refine ww_and1 ?_
                  refine wt_cmp ?_
                  refine w_callB (id := "len") T.b_len ?_
                  refine wa_cons ?_
                  refine w_name 1 rfl (.inr (.inl rfl)) rfl ?_
                  refine wa_nil ?_
                  walk_at "c_len"
                  try rw [List.length_map]
                  refine w_int ?_
                  walk_at "Lt"
                  refine ⟨_, rfl, ?_⟩
                  exact ⟨rfl, fun z => by have := of_decide_eq_true z; omega⟩
                rintro b μ1 ⟨rfl, hb9⟩
                refine ⟨fun hb => wSs_fz (i := 0) (j := 8) rfl rfl ?_, fun hb => ?_⟩
                · -- _law_found = _law_found + [_law_more] + _law_found[:_law_at + 1]
                  refine w_cons (w_set 8 sc__law_bent.nd rfl (.inl rfl) (.inl rfl) ?_)
                  refine w_bin ?_
                  refine w_bin ?_
                  refine w_name 8 rfl (.inl rfl) rfl ?_
                  refine w_lst ?_
                  refine wa_cons ?_
                  refine w_name 6 rfl (.inl rfl) rfl ?_
                  refine wa_nil ?_
                  refine ⟨by simp, ?_⟩
                  refine o_addL (by have := hb9 hb; simp only [List.length_map, List.length_cons, List.length_nil]; omega) ?_
                  refine w_sl ?_
                  refine w_name 8 rfl (.inl rfl) rfl ?_
                  refine wo_none ?_
                  refine wo_some ?_
                  refine w_bin ?_
                  refine w_name 5 rfl (.inl rfl) rfl ?_
                  refine w_int ?_
                  first | refine o_addN (b := 1) ?_ | walk_at "Add"
                  refine ⟨_, rfl, ?_⟩
                  refine sd_lst ?_
                  rw [cutD_to]
                  refine o_addL (by have := hb9 hb; simp only [List.length_append, List.length_take, List.length_map, List.length_cons, List.length_nil]; omega) ?_
                  refine w_nil ?_
                  refine w_nil ?_
                  refine w_nil ?_
                  refine w_nil ?_
                  refine w_nil ?_
                  refine w_nil ?_
                  refine w_nil ?_
                  have h29 := hb9 hb
                  have hT7 := th_list (μ := μ.set ip (qp, penW ns (n + 1 + 1 + 1 + 1 + 1))) (ds := L.map natP ++ [natP (r3, r4)] ++ (L.map natP).take (r2 + 1)) (fun x hx => by
                    rcases List.mem_append.mp hx with hx | hx
                    · rcases List.mem_append.mp hx with hx | hx
                      · exact hE _ x hx
                      · rw [List.mem_singleton] at hx; subst hx; exact ew_nat ⟨by show r3 ≤ 1000; omega, by show r4 ≤ 1000; omega⟩
                    · exact hE _ x (List.mem_of_mem_take hx)) (by simp only [List.length_append, List.length_take, List.length_map, List.length_cons, List.length_nil]; omega)
                  exact ⟨[_, _], rfl, ⟨_, _, [], _, _, hT7, (fun ds z => by cases z; simp only [List.length_append, List.length_take, List.length_map, List.length_cons, List.length_nil]; omega), (by omega), rfl, rfl⟩⟩
                · -- _law_found = [_law_pairs[_law_k] for _law_k in _law_order(_law_pen_here, len(_law_pairs))]
                  refine w_cons (w_setLc (own := [("_law_k", 11)]) 8 (.one 11) (by decide) rfl sc__law_bent.nd rfl rfl (blkOk_by (N := N__law_bent) (sc := defScope s__law_bent) (by decide +kernel)) (sw_true rfl rfl rfl (by decide +kernel)) (fun _ _ _ _ _ => pg_name (i := 11) sc__law_bent.nd rfl (by first | exact .inl rfl | exact .inr rfl)) ?_)
                  refine lcW_of ?_
                  refine wi_lst ?_
                  refine w_callG G__law_order hr ?_
                  refine wa_cons ?_
                  refine w_name 0 rfl (.inl rfl) rfl ?_
                  refine wa_cons ?_
                  refine w_callB (id := "len") T.b_len ?_
                  refine wa_cons ?_
                  refine w_name 1 rfl (.inr (.inl rfl)) rfl ?_
                  refine wa_nil ?_
                  walk_at "c_len"
                  try rw [List.length_map]
                  refine wa_nil ?_
                  refine ⟨ns, n + 1 + 1 + 1 + 1 + 1, qp, ip + 1, L.length, rfl, by walk_at "pen", by omega, by omega, fun l c μ7 hl hc7 e7 => ?_⟩
                  rw [List.set_cons_succ, List.set_set] at e7
                  subst e7
                  have hll := hl.length_eq
                  rw [List.length_range] at hll
                  refine ⟨_, rfl, ?_⟩
                  refine lcq_map (l) _ ((fun k => natP (L.getD k (0, 0)))) rfl (by first | omega | (simp only [List.length_map, List.length_range]; omega) | (simp; omega)) ?_ ?_
                  · intro p_k ik k hk
                    refine ⟨[_, _, _, _, _, _, _, _, _, _, _, _], rfl, fun _ _ _ _ _ => ?_⟩
                    refine w_ix ?_
                    refine w_name 1 rfl (.inr (.inl rfl)) rfl ?_
                    refine w_name 11 rfl (.inl rfl) rfl ?_
                    have hkl : k < L.length := List.mem_range.mp (hl.mem_iff.mp (List.mem_of_getElem? hk))
                    refine ix_lstD k rfl (map_at (show L[k]? = some (L.getD k (0, 0)) by rw [List.getD_eq_getElem?_getD, List.getElem?_eq_getElem hkl]; rfl)) ?_
                    exact ⟨rfl, rfl⟩
                  intro p_c
                  refine ⟨_, _, _, rfl, rfl, .inl ?_⟩
                  refine w_nil ?_
                  refine w_nil ?_
                  refine w_nil ?_
                  refine w_nil ?_
                  refine w_nil ?_
                  refine w_nil ?_
                  refine w_nil ?_
                  have hT8 := th_list (μ := (pf, .lst (L.map natP)) :: μ.set ip (qp, penW ns c)) (ds := l.map fun k => natP (L.getD k (0, 0))) (fun x hx => by
                    obtain ⟨k9, hk9, rfl⟩ := List.mem_map.mp hx
                    have hkl : k9 < L.length := List.mem_range.mp (hl.mem_iff.mp hk9)
                    refine ew_nat (hLn _ ?_)
                    rw [List.getD_eq_getElem?_getD, List.getElem?_eq_getElem hkl]
                    exact List.getElem_mem hkl) (by rw [List.length_map]; omega)
                  exact ⟨[_, _], rfl, ⟨_, _, [(pf, .lst (L.map natP))], c, _, hT8, (fun ds z => by cases z; rw [List.length_map]; omega), (by omega), rfl, rfl⟩⟩
  rintro vs μ' ⟨d, o, ν, c, w9, hT, hB, hc, rfl, rfl⟩
  refine wSs_rho (ρ' := [_, _, _, _, _, _, _, _, _, _, _, _]) rfl ?_
  -- return _law_found
  refine w_cons (w_ret ?_)
  refine w_name 8 rfl (.inl rfl) rfl ?_
  exact k d o ν c hT hB hc
end
end L16

namespace L16
open PySem PySem.Spec L2 Oc
open Evl (Ex)
local macro_rules | `(tactic| walk_at "s") => `(tactic| first | assumption | omega | decide | (simp only [] at *; omega))
local macro_rules | `(tactic| walk_at "Add") => `(tactic| first | refine o_addN ?_ | refine o_add ?_ | refine o_addS (by walk_at "s") ?_ | refine o_addT (by walk_at "s") ?_ | refine o_addL (by walk_at "s") ?_)
local macro_rules | `(tactic| walk_at "Sub") => `(tactic| refine o_sub ?_)
local macro_rules | `(tactic| walk_at "Mult") => `(tactic| refine o_mul (by walk_at "s") ?_)
local macro_rules | `(tactic| walk_at "Mod") => `(tactic| first | refine o_modN (by walk_at "s") ?_ | refine o_mod (by walk_at "s") ?_)
local macro_rules | `(tactic| walk_at "FloorDiv") => `(tactic| first | refine o_divN (by walk_at "s") ?_ | refine o_div (by walk_at "s") ?_)
local macro_rules | `(tactic| walk_at "Pow") => `(tactic| refine o_pow (by walk_at "s") ?_)
local macro_rules | `(tactic| walk_at "LShift") => `(tactic| refine o_shl (by walk_at "s") ?_)
local macro_rules | `(tactic| walk_at "RShift") => `(tactic| refine o_shr (by walk_at "s") ?_)
local macro_rules | `(tactic| walk_at "BitAnd") => `(tactic| refine o_band ?_)
local macro_rules | `(tactic| walk_at "BitXor") => `(tactic| refine o_bxor ?_)
local macro_rules | `(tactic| walk_at "BitOr") => `(tactic| refine o_bor ?_)
local macro_rules | `(tactic| walk_at "Lt") => `(tactic| refine o_lt ?_)
local macro_rules | `(tactic| walk_at "LtE") => `(tactic| refine o_le ?_)
local macro_rules | `(tactic| walk_at "Gt") => `(tactic| refine o_gt ?_)
local macro_rules | `(tactic| walk_at "GtE") => `(tactic| refine o_ge ?_)
local macro_rules | `(tactic| walk_at "Eq") => `(tactic| refine o_eq (by rfl) ?_)
local macro_rules | `(tactic| walk_at "NotEq") => `(tactic| refine o_ne (by rfl) ?_)
local macro_rules | `(tactic| walk_at "Is") => `(tactic| refine o_isN ?_)
local macro_rules | `(tactic| walk_at "IsNot") => `(tactic| refine o_notN ?_)
local macro_rules | `(tactic| walk_at "In") => `(tactic| refine o_in (by first | exact .inl rfl | exact .inr (.inl rfl) | exact .inr (.inr rfl)) (by rfl) (by rfl) ?_)
local macro_rules | `(tactic| walk_at "NotIn") => `(tactic| refine o_nin (by first | exact .inl rfl | exact .inr (.inl rfl) | exact .inr (.inr rfl)) (by rfl) (by rfl) ?_)
local macro_rules | `(tactic| walk_at "c_abs") => `(tactic| refine c_abs ?_)
local macro_rules | `(tactic| walk_at "c_len") => `(tactic| first | refine c_lenL ?_ | refine c_lenC ?_ | refine c_lenT ?_ | refine c_lenS (by walk_at "s") ?_ | refine c_lenP 0 (by first | assumption | rfl) ?_)
local macro_rules | `(tactic| walk_at "c_str") => `(tactic| refine c_str (by walk_at "s") ?_)
local macro_rules | `(tactic| walk_at "c_isinstance") => `(tactic| refine c_isi rfl (by rfl) ?_)
local macro_rules | `(tactic| walk_at "sl") => `(tactic| first | refine sd_tup ?_ | refine sd_lst ?_)
local macro_rules | `(tactic| walk_at "c_tuple") => `(tactic| first | refine c_tupL ?_ | refine c_tupP 0 (by first | assumption | rfl) ?_ | refine c_tupT ?_)
local macro_rules | `(tactic| walk_at "c_int") => `(tactic| first | refine c_intB ?_)
local macro_rules | `(tactic| walk_at "USub") => `(tactic| refine u_neg ?_)
local macro_rules | `(tactic| walk_at "pen") => `(tactic| first | assumption | exact get_set (by assumption) | exact get_set (get_set (by assumption)) | exact get_here | (apply get_cons; walk_at "pen") | (apply get_app; walk_at "pen"))
local macro_rules | `(tactic| walk_at "mu") => `(tactic| simp only [List.set_cons_succ, List.set_set, List.set_cons_zero])
/-! ### pairs come to -/
theorem zip_rooms {M N : Mach} (hM : M.Ok 24) (hN : N.Ok 24) (ha : M.asks = N.asks) {p : Nat × Nat} (hp : InP M N p) :
    zipD ((M.rooms.getD p.1 []).map cellD) ((N.rooms.getD p.2 []).map cellD) = (List.range M.asks).map fun a => D.tup [cellD (M.cell p.1 a), cellD (N.cell p.2 a)] := by
  have h1 := (roomD_len hM hp.1).1
  have h2 := (roomD_len hN hp.2).1
  refine List.ext_getElem? fun a => ?_
  by_cases h : a < M.asks
  · rw [List.getElem?_map, List.getElem?_range h]
    unfold zipD
    rw [List.getElem?_map]
    have e : (((M.rooms.getD p.1 []).map cellD).zip ((N.rooms.getD p.2 []).map cellD))[a]? = some (cellD (M.cell p.1 a), cellD (N.cell p.2 a)) := by
      rw [List.getElem?_zip_eq_some]
      exact ⟨(mach_at hM hp.1 h).2.1, (mach_at hN hp.2 (by omega)).2.1⟩
    rw [e]
    rfl
  · rw [List.getElem?_eq_none (by rw [zipD_len, List.length_map, List.length_map]; omega), List.getElem?_eq_none (by rw [List.length_map, List.length_range]; omega)]
theorem nin_two (a b : Option Nat) : ∃ w ws, D.fl .non = some w ∧ D.fls [optD a, optD b] = some ws ∧ (!inV w ws) = (a.isSome && b.isSome) := by
  cases a <;> cases b <;> exact ⟨_, _, rfl, rfl, rfl⟩
def S_led16 : FS := fun ds μ Φ => ∃ (M N : Mach), ds = [machD M, machD N] ∧ M.Ok 24 ∧ N.Ok 24 ∧ M.asks = N.asks ∧
  ∀ (c : Addr × MO) (pf : Addr) (L : List (Nat × Nat)), (∀ p ∈ L, InP M N p) → 0 < L.length → L.length ≤ 2305 → Φ (.ptr pf) (c :: (pf, .lst (L.map natP)) :: μ)
section
variable {P : Program} {w : World} {K : PySem.W.Frag} {mg : Str → Option Value} {base : Heap}
theorem ok_led16 (B : Src K mg "_law_led" s__law_led ["_law_machine_here", "_law_other_here"]) (T : Tx mg)  : KnG P w K mg base 1 "_law_led" ["_law_machine_here", "_law_other_here"] S_led16 := by
  refine kn_ofG B sc__law_led (fun ds μ Φ h => by obtain ⟨_, _, rfl, _⟩ := h; rfl) fun f cdv A outer s H E grd hr ds μ Φ h => ?_
  obtain ⟨M, N, rfl, hM, hN, ha, k⟩ := h
  have ha4 := hM.a4
  have hu := hu_of hr.r
  refine wSs_rho (ρ' := [_, _, _, _, _, _, _, _]) rfl ?_
  -- _law_found = [(0, 0)]
  refine w_cons (w_set 2 sc__law_led.nd rfl (.inl rfl) (.inl rfl) ?_)
  refine w_lstM ?_
  refine wa_cons ?_
  refine w_tup ?_
  refine wa_cons ?_
  refine w_int ?_
  refine wa_cons ?_
  refine w_int ?_
  refine wa_nil ?_
  refine ⟨by simp, ?_⟩
  refine wa_nil ?_
  refine ⟨by simp, fun p_found => ?_⟩
  -- _law_met = {(0, 0): True}
  refine w_cons (w_set 3 sc__law_led.nd rfl (.inl rfl) (.inl rfl) ?_)
  refine w_dispT hu fun q => ?_
  refine w_tup ?_
  refine wa_cons ?_
  refine w_int ?_
  refine wa_cons ?_
  refine w_int ?_
  refine wa_nil ?_
  refine ⟨by simp, ?_⟩
  refine w_bl ?_
  refine ⟨pk2 (0, 0), _, rfl, rfl, ?_⟩
  have hm24 := hM.rm
  have hn24 := hN.rm
  have hMN : M.rooms.length * N.rooms.length ≤ 24 * 24 := Nat.mul_le_mul hm24 hn24
  -- for _law_at in range(len(_law_machine_here[1]) * len(_law_other_here[1])):
  refine w_cons (w_forV [4, 5, 6, 7] ?_ PassesOwn.never rfl)
  refine wi_rngN T.b_range ?_
  refine w_bin ?_
  refine w_callB (id := "len") T.b_len ?_
  refine wa_cons ?_
  refine w_ix ?_
  refine w_name 0 rfl (.inl rfl) rfl ?_
  refine w_int ?_
  first | refine ix_tupD 1 rfl rfl ?_ | refine ix_lstD 1 rfl rfl ?_ | refine ix_tupD 1 rfl (by assumption) ?_ | refine ix_lstD 1 rfl (by assumption) ?_ | refine ix_ptrD 0 rfl 1 rfl rfl ?_ | refine ix_ptrD 1 rfl 1 rfl rfl ?_ | refine ix_ptrD 2 rfl 1 rfl rfl ?_
  refine wa_nil ?_
  walk_at "c_len"
  try rw [List.length_map]
  refine w_callB (id := "len") T.b_len ?_
  refine wa_cons ?_
  refine w_ix ?_
  refine w_name 1 rfl (.inl rfl) rfl ?_
  refine w_int ?_
  first | refine ix_tupD 1 rfl rfl ?_ | refine ix_lstD 1 rfl rfl ?_ | refine ix_tupD 1 rfl (by assumption) ?_ | refine ix_lstD 1 rfl (by assumption) ?_ | refine ix_ptrD 0 rfl 1 rfl rfl ?_ | refine ix_ptrD 1 rfl 1 rfl rfl ?_ | refine ix_ptrD 2 rfl 1 rfl rfl ?_
  refine wa_nil ?_
  walk_at "c_len"
  try rw [List.length_map]
  first | refine o_mulN (by omega) ?_ | walk_at "Mult"
  refine ⟨_, by rfl, by omega, ?_⟩
  refine ⟨_, fun i vs μ' => ∃ (L : List (Nat × Nat)) (w4 w5 w6 w7 : Option D), (∀ p ∈ L, InP M N p) ∧ (0 < L.length) ∧ (L.length ≤ 1 + 4 * i) ∧ vs = [w4, w5, w6, w7] ∧ (q, .dt (metT L)) :: (p_found, .lst (L.map natP)) :: μ = μ', (by first | exact nats_len | exact nats2_len | exact enumD_len.trans (List.length_map _) | exact enumD_len | exact List.length_map _ | exact rfl | simp), ⟨[(0, 0)], _, _, _, _, (fun p hp => by rw [List.mem_singleton] at hp; subst hp; exact ⟨hM.r0, hN.r0⟩), (Nat.lt_succ_self 0), (Nat.le_refl 1), rfl, rfl⟩, ?_, ?_⟩
  · rintro «at» x vs μ' hx ⟨L, w4, w5, w6, w7, hin, hL0, hLl, rfl, rfl⟩
    refine wG_rho (ρ' := [_, _, _, _, _, _, _, _]) rfl ?_
    obtain ⟨hat, rfl⟩ := nats_get hx
    refine wg_name 4 sc__law_led.nd rfl (.inl rfl) (.inl rfl) ?_
    -- if _law_at < len(_law_found):
    refine w_cons (w_if ?_)
    refine wt_cmp ?_
    refine w_name 4 rfl (.inl rfl) rfl ?_
    refine w_callB (id := "len") T.b_len ?_
    refine wa_cons ?_
    refine w_name 2 rfl (.inl rfl) rfl ?_
    refine wa_nil ?_
    refine c_lenP 1 rfl ?_
    rw [List.length_map]
    walk_at "Lt"
    refine ⟨_, rfl, ?_⟩
    refine ⟨fun hb => ?_, fun hb => ?_⟩
    · -- for _law_cell_here, _law_beside in zip(_law_machine_here[1][_law_found[_law_at][0]], _law_other_here[1][_law_found[_law_at][1]]):
      refine w_cons (w_forV [5, 6, 7] ?_ PassesOwn.never rfl)
      refine wi_zip T.b_zip ?_
      refine w_ix ?_
      refine w_ix ?_
      refine w_name 0 rfl (.inl rfl) rfl ?_
      refine w_int ?_
      have hal : «at» < L.length := by have := of_decide_eq_true hb; omega
      obtain ⟨pr, hpr, hprm⟩ := get_of_lt hal
      have hpi := hin pr hprm
      have g1 : (M.rooms.map roomD)[pr.1]? = some (roomD (M.rooms.getD pr.1 [])) := (mach_at hM hpi.1 hM.a0).1
      have g2 : (N.rooms.map roomD)[pr.2]? = some (roomD (N.rooms.getD pr.2 [])) := (mach_at hN hpi.2 hN.a0).1
      refine ix_tupD 1 rfl rfl ?_
      refine w_ix ?_
      refine w_ix ?_
      refine w_name 2 rfl (.inl rfl) rfl ?_
      refine w_name 4 rfl (.inl rfl) rfl ?_
      first | refine ix_tupD _ rfl (by assumption) ?_ | refine ix_lstD _ rfl (by assumption) ?_ | refine ix_tupD _ rfl (map_at (by assumption)) ?_ | refine ix_lstD _ rfl (map_at (by assumption)) ?_ | refine ix_ptrD 0 rfl _ rfl (by assumption) ?_ | refine ix_ptrD 0 rfl _ rfl (map_at (by assumption)) ?_ | refine ix_ptrD 1 rfl _ rfl (map_at (by assumption)) ?_
      refine w_int ?_
      first | refine ix_tupD 0 rfl rfl ?_ | refine ix_lstD 0 rfl rfl ?_ | refine ix_tupD 0 rfl (by assumption) ?_ | refine ix_lstD 0 rfl (by assumption) ?_ | refine ix_ptrD 0 rfl 0 rfl rfl ?_ | refine ix_ptrD 1 rfl 0 rfl rfl ?_ | refine ix_ptrD 2 rfl 0 rfl rfl ?_
      refine ix_tupD pr.1 rfl g1 ?_
      refine w_ix ?_
      refine w_ix ?_
      refine w_name 1 rfl (.inl rfl) rfl ?_
      refine w_int ?_
      first | refine ix_tupD 1 rfl rfl ?_ | refine ix_lstD 1 rfl rfl ?_ | refine ix_tupD 1 rfl (by assumption) ?_ | refine ix_lstD 1 rfl (by assumption) ?_ | refine ix_ptrD 0 rfl 1 rfl rfl ?_ | refine ix_ptrD 1 rfl 1 rfl rfl ?_ | refine ix_ptrD 2 rfl 1 rfl rfl ?_
      refine w_ix ?_
      refine w_ix ?_
      refine w_name 2 rfl (.inl rfl) rfl ?_
      refine w_name 4 rfl (.inl rfl) rfl ?_
      first | refine ix_tupD _ rfl (by assumption) ?_ | refine ix_lstD _ rfl (by assumption) ?_ | refine ix_tupD _ rfl (map_at (by assumption)) ?_ | refine ix_lstD _ rfl (map_at (by assumption)) ?_ | refine ix_ptrD 0 rfl _ rfl (by assumption) ?_ | refine ix_ptrD 0 rfl _ rfl (map_at (by assumption)) ?_ | refine ix_ptrD 1 rfl _ rfl (map_at (by assumption)) ?_
      refine w_int ?_
      first | refine ix_tupD 1 rfl rfl ?_ | refine ix_lstD 1 rfl rfl ?_ | refine ix_tupD 1 rfl (by assumption) ?_ | refine ix_lstD 1 rfl (by assumption) ?_ | refine ix_ptrD 0 rfl 1 rfl rfl ?_ | refine ix_ptrD 1 rfl 1 rfl rfl ?_ | refine ix_ptrD 2 rfl 1 rfl rfl ?_
      refine ix_tupD pr.2 rfl g2 ?_
      refine ⟨_, _, .inr ⟨rfl, rfl⟩, ?_⟩
      rw [zip_rooms hM hN ha hpi]
      refine ⟨_, fun i vs μ' => ∃ (L2 : List (Nat × Nat)) (w5 w6 w7 : Option D), (∀ p ∈ L2, InP M N p) ∧ (0 < L2.length) ∧ (L2.length ≤ 1 + 4 * «at» + i) ∧ vs = [w5, w6, w7] ∧ (q, .dt (metT L2)) :: (p_found, .lst (L2.map natP)) :: μ = μ', (by first | exact nats_len | exact nats2_len | exact enumD_len.trans (List.length_map _) | exact enumD_len | exact List.length_map _ | exact rfl | simp), ⟨L, _, _, _, hin, hL0, hLl, rfl, rfl⟩, ?_, ?_⟩
      · rintro ie x vs μ' hx ⟨L2, w5, w6, w7, hin2, hL20, hL2l, rfl, rfl⟩
        refine wG_rho (ρ' := [_, _, _, _, _, _, _, _]) rfl ?_
        obtain ⟨e, he, rfl⟩ := map_get' hx
        obtain ⟨hie, rfl⟩ : ie < M.asks ∧ e = ie := by
          have h1 := lt_of_get he
          rw [List.length_range] at h1
          rw [List.getElem?_range h1] at he
          cases he
          exact ⟨h1, rfl⟩
        obtain ⟨g3, g4, g5⟩ := mach_at hM hpi.1 hie
        obtain ⟨g6, g7, g8⟩ := mach_at hN hpi.2 (show e < N.asks by rw [← ha]; exact hie)
        first | refine wg_tup rfl rfl ?_ | refine wg_lst rfl rfl ?_
        refine wgs_cons ?_
        refine wg_name 5 sc__law_led.nd rfl (.inl rfl) (.inl rfl) ?_
        refine wgs_cons ?_
        refine wg_name 6 sc__law_led.nd rfl (.inl rfl) (.inl rfl) ?_
        refine wgs_nil ?_
        -- _law_pair = (_law_cell_here[0], _law_beside[0])
        refine w_cons (w_set 7 sc__law_led.nd rfl (.inl rfl) (.inl rfl) ?_)
        refine w_tup ?_
        refine wa_cons ?_
        refine w_ix ?_
        refine w_name 5 rfl (.inl rfl) rfl ?_
        refine w_int ?_
        first | refine ix_tupD 0 rfl rfl ?_ | refine ix_lstD 0 rfl rfl ?_ | refine ix_tupD 0 rfl (by assumption) ?_ | refine ix_lstD 0 rfl (by assumption) ?_ | refine ix_ptrD 0 rfl 0 rfl rfl ?_ | refine ix_ptrD 1 rfl 0 rfl rfl ?_ | refine ix_ptrD 2 rfl 0 rfl rfl ?_
        refine wa_cons ?_
        refine w_ix ?_
        refine w_name 6 rfl (.inl rfl) rfl ?_
        refine w_int ?_
        first | refine ix_tupD 0 rfl rfl ?_ | refine ix_lstD 0 rfl rfl ?_ | refine ix_tupD 0 rfl (by assumption) ?_ | refine ix_lstD 0 rfl (by assumption) ?_ | refine ix_ptrD 0 rfl 0 rfl rfl ?_ | refine ix_ptrD 1 rfl 0 rfl rfl ?_ | refine ix_ptrD 2 rfl 0 rfl rfl ?_
        refine wa_nil ?_
        refine ⟨by simp, ?_⟩
        -- if None not in _law_pair and _law_pair not in _law_met:
        refine w_cons (w_if ?_)
        refine wt_mono (Ψ := (fun b μ1 => μ1 = (q, .dt (metT L2)) :: (p_found, .lst (L2.map natP)) :: μ ∧ (b = true → ∃ x y, (M.cell pr.1 e).1 = some x ∧ (N.cell pr.2 e).1 = some y ∧ (x, y) ∉ L2))) ?_ ?_
        · refine wt_w ?_
          refine ww_and ?_
          refine wt_cmp ?_
          refine w_non ?_
          refine w_name 7 rfl (.inl rfl) rfl ?_
          obtain ⟨w9, ws9, hw1, hw2, hw3⟩ := nin_two (M.cell pr.1 e).1 (N.cell pr.2 e).1
          refine o_nin (.inl rfl) hw1 hw2 ?_
          rw [hw3]
          refine ⟨_, rfl, ?_⟩
          refine ⟨fun hb0 => ?_, fun hb0 => ?_⟩
          rotate_left
          · exact ⟨rfl, fun z => (nomatch z)⟩
          refine ww_and1 ?_
          refine wt_tnin hu ?_
          refine w_name 7 rfl (.inl rfl) rfl ?_
          refine w_name 3 rfl (.inl rfl) rfl ?_
          rw [Bool.and_eq_true] at hb0
          obtain ⟨x, hx⟩ := Option.isSome_iff_exists.mp hb0.1
          obtain ⟨y, hy⟩ := Option.isSome_iff_exists.mp hb0.2
          refine ⟨q, 0, _, pk2 (x, y), rfl, by rw [hx, hy]; rfl, rfl, ?_⟩
          rw [metT_in]
          exact ⟨rfl, fun z => ⟨x, y, hx, hy, by simpa using z⟩⟩
        rintro b μ1 ⟨rfl, hb9⟩
        refine ⟨fun hb => ?_, fun hb => ?_⟩
        · -- _law_met[_law_pair] = True
          refine w_cons (w_tput hu ?_)
          refine w_bl ?_
          refine w_name 3 rfl (.inl rfl) rfl ?_
          refine w_name 7 rfl (.inl rfl) rfl ?_
          obtain ⟨x, y, hx, hy, hnm⟩ := hb9 hb
          refine ⟨q, 0, _, pk2 (x, y), rfl, by rw [hx, hy]; rfl, rfl, by unfold metT; rw [List.length_map]; omega, ?_⟩
          rw [metT_put hnm]
          -- _law_found.append(_law_pair)
          refine w_cons (w_expr ?_)
          refine w_append ?_
          refine w_name 2 rfl (.inl rfl) rfl ?_
          first | refine ⟨.inl ⟨rfl, 0, _, rfl⟩, ?_⟩ | refine ⟨.inl ⟨rfl, 1, _, rfl⟩, ?_⟩ | refine ⟨.inl ⟨rfl, 2, _, rfl⟩, ?_⟩ | refine ⟨.inl ⟨rfl, 3, _, rfl⟩, ?_⟩ | refine ⟨rfl, ?_⟩
          refine wa_cons ?_
          refine w_name 7 rfl (.inl rfl) rfl ?_
          refine wa_nil ?_
          refine m_append 1 rfl (by rw [List.length_map]; omega) ?_
          rw [show L2.map natP ++ [D.tup [optD (M.cell pr.1 e).1, optD (N.cell pr.2 e).1]] = (L2 ++ [(x, y)]).map natP from by rw [hx, hy, List.map_append]; rfl]
          refine w_nil ?_
          refine w_nil ?_
          exact ⟨[_, _, _], rfl, ⟨(L2 ++ [(x, y)]), _, _, _, (fun p hp => (List.mem_append.mp hp).elim (hin2 p) fun z => by rw [List.mem_singleton] at z; subst z; exact ⟨g5.1 _ hx, g8.1 _ hy⟩), (by rw [List.length_append]; omega), (by rw [List.length_append]; show L2.length + 1 ≤ _; omega), rfl, rfl⟩⟩
        · refine w_nil ?_
          refine w_nil ?_
          exact ⟨[_, _, _], rfl, ⟨L2, _, _, _, hin2, hL20, (by omega), rfl, rfl⟩⟩
      rintro vs μ' ⟨L2, w5, w6, w7, hin2, hL20, hL2l, rfl, rfl⟩
      refine wSs_rho (ρ' := [_, _, _, _, _, _, _, _]) rfl ?_
      refine w_nil ?_
      refine w_nil ?_
      exact ⟨[_, _, _, _], rfl, ⟨L2, _, _, _, _, hin2, hL20, (by have := List.length_range (n := M.asks); omega), rfl, rfl⟩⟩
    · refine w_nil ?_
      refine w_nil ?_
      exact ⟨[_, _, _, _], rfl, ⟨L, _, _, _, _, hin, hL0, (by omega), rfl, rfl⟩⟩
  rintro vs μ' ⟨L, w4, w5, w6, w7, hin, hL0, hLl, rfl, rfl⟩
  refine wSs_rho (ρ' := [_, _, _, _, _, _, _, _]) rfl ?_
  -- return _law_found
  refine w_cons (w_ret ?_)
  refine w_name 2 rfl (.inl rfl) rfl ?_
  exact k _ p_found L hin hL0 (by omega)
end
end L16

namespace L16
open PySem PySem.Spec L2 Oc
open Evl (Ex)
local macro_rules | `(tactic| walk_at "s") => `(tactic| first | assumption | omega | decide | (simp only [] at *; omega))
local macro_rules | `(tactic| walk_at "Add") => `(tactic| first | refine o_addN ?_ | refine o_add ?_ | refine o_addS (by walk_at "s") ?_ | refine o_addT (by walk_at "s") ?_ | refine o_addL (by walk_at "s") ?_)
local macro_rules | `(tactic| walk_at "Sub") => `(tactic| refine o_sub ?_)
local macro_rules | `(tactic| walk_at "Mult") => `(tactic| refine o_mul (by walk_at "s") ?_)
local macro_rules | `(tactic| walk_at "Mod") => `(tactic| first | refine o_modN (by walk_at "s") ?_ | refine o_mod (by walk_at "s") ?_)
local macro_rules | `(tactic| walk_at "FloorDiv") => `(tactic| first | refine o_divN (by walk_at "s") ?_ | refine o_div (by walk_at "s") ?_)
local macro_rules | `(tactic| walk_at "Pow") => `(tactic| refine o_pow (by walk_at "s") ?_)
local macro_rules | `(tactic| walk_at "LShift") => `(tactic| refine o_shl (by walk_at "s") ?_)
local macro_rules | `(tactic| walk_at "RShift") => `(tactic| refine o_shr (by walk_at "s") ?_)
local macro_rules | `(tactic| walk_at "BitAnd") => `(tactic| refine o_band ?_)
local macro_rules | `(tactic| walk_at "BitXor") => `(tactic| refine o_bxor ?_)
local macro_rules | `(tactic| walk_at "BitOr") => `(tactic| refine o_bor ?_)
local macro_rules | `(tactic| walk_at "Lt") => `(tactic| refine o_lt ?_)
local macro_rules | `(tactic| walk_at "LtE") => `(tactic| refine o_le ?_)
local macro_rules | `(tactic| walk_at "Gt") => `(tactic| refine o_gt ?_)
local macro_rules | `(tactic| walk_at "GtE") => `(tactic| refine o_ge ?_)
local macro_rules | `(tactic| walk_at "Eq") => `(tactic| refine o_eq (by rfl) ?_)
local macro_rules | `(tactic| walk_at "NotEq") => `(tactic| refine o_ne (by rfl) ?_)
local macro_rules | `(tactic| walk_at "Is") => `(tactic| refine o_isN ?_)
local macro_rules | `(tactic| walk_at "IsNot") => `(tactic| refine o_notN ?_)
local macro_rules | `(tactic| walk_at "In") => `(tactic| refine o_in (by first | exact .inl rfl | exact .inr (.inl rfl) | exact .inr (.inr rfl)) (by rfl) (by rfl) ?_)
local macro_rules | `(tactic| walk_at "NotIn") => `(tactic| refine o_nin (by first | exact .inl rfl | exact .inr (.inl rfl) | exact .inr (.inr rfl)) (by rfl) (by rfl) ?_)
local macro_rules | `(tactic| walk_at "c_abs") => `(tactic| refine c_abs ?_)
local macro_rules | `(tactic| walk_at "c_len") => `(tactic| first | refine c_lenL ?_ | refine c_lenC ?_ | refine c_lenT ?_ | refine c_lenS (by walk_at "s") ?_ | refine c_lenP 0 (by first | assumption | rfl) ?_)
local macro_rules | `(tactic| walk_at "c_str") => `(tactic| refine c_str (by walk_at "s") ?_)
local macro_rules | `(tactic| walk_at "c_isinstance") => `(tactic| refine c_isi rfl (by rfl) ?_)
local macro_rules | `(tactic| walk_at "sl") => `(tactic| first | refine sd_tup ?_ | refine sd_lst ?_)
local macro_rules | `(tactic| walk_at "c_tuple") => `(tactic| first | refine c_tupL ?_ | refine c_tupP 0 (by first | assumption | rfl) ?_ | refine c_tupT ?_)
local macro_rules | `(tactic| walk_at "c_int") => `(tactic| first | refine c_intB ?_)
local macro_rules | `(tactic| walk_at "USub") => `(tactic| refine u_neg ?_)
local macro_rules | `(tactic| walk_at "pen") => `(tactic| first | assumption | exact get_set (by assumption) | exact get_set (get_set (by assumption)) | exact get_here | (apply get_cons; walk_at "pen") | (apply get_app; walk_at "pen"))
local macro_rules | `(tactic| walk_at "mu") => `(tactic| simp only [List.set_cons_succ, List.set_set, List.set_cons_zero])
/-! ### told rightly -/
theorem pop_at {α : Type} {f : α → D} {l : List α} {z : α} : ((l ++ [z]).map f)[((l ++ [z]).map f).length - 1]? = some (f z) := by
  rw [List.length_map, List.length_append, List.map_append]
  show (l.map f ++ [f z])[l.length + 1 - 1]? = _
  rw [Nat.add_sub_cancel, List.getElem?_append_right (by rw [List.length_map]; exact Nat.le_refl _), List.length_map, Nat.sub_self]
  rfl
theorem str_eqf (x : Str) : D.eqf (.str x) (.str x) = true := beq_self_eq_true x
theorem td_w {w : Str} (h : w = ("says" : Str) ∨ w = ("goes" : Str) ∨ w = ("behind" : Str)) : Td (.str w) 30 5 := by
  rcases h with rfl | rfl | rfl <;> exact td_by (by decide +kernel)
theorem wordF_w {M N : Mach} {L : List (Nat × Nat)} {p : Nat × Nat} {a : Nat} {w : Str} (h : wordF M N L p a = some w) : w = ("says" : Str) ∨ w = ("goes" : Str) ∨ w = ("behind" : Str) := by
  unfold wordF at h
  split at h
  · exact .inl (Option.some.inj h).symm
  · split at h
    · exact .inr (.inl (Option.some.inj h).symm)
    · split at h
      · split at h
        · cases h
        · exact .inr (.inr (Option.some.inj h).symm)
      · cases h
theorem fault_ty {M N : Mach} {o : Option (List D)} {d : D} (hM : M.asks ≤ 4) (h : FaultO M N o d) (hl : ∀ ds, o = some ds → ds.length ≤ 100000) : ∃ y, (∀ μ, ShwD μ d y) ∧ Td y 100 10 := by
  have hsh : ∃ y, (∀ μ, ShwD μ (.tup [.str "shape"]) y) ∧ Td y 100 10 := ⟨_, fun μ => .tup (.cons (.str _) .nil), (td_by (by decide +kernel)).mono (by decide) (by decide)⟩
  cases o with
  | none => cases h; exact hsh
  | some ds =>
    rcases h with ⟨_, rfl⟩ | ⟨L, rfl, _, ⟨_, rfl⟩ | ⟨_, ⟨rfl, _⟩ | ⟨k, p, a, w, hk, ha, hw, rfl, _, _⟩⟩⟩
    · exact hsh
    · exact ⟨_, fun μ => .tup (.cons (.str _) .nil), (td_by (by decide +kernel)).mono (by decide) (by decide)⟩
    · exact ⟨_, fun μ => .non, (td_by (by decide +kernel)).mono (by decide) (by decide)⟩
    · have h1 := hl _ rfl
      have h2 := lt_of_get hk
      rw [List.length_map] at h1
      refine ⟨_, fun μ => .tup (.cons (.str _) (.cons (.int _) (.cons (.int _) .nil))), ?_⟩
      exact (Td.tup (Tds.cons (td_w (wordF_w hw)) (Tds.cons (td_small (i := (k : Nat)) (by omega)) (Tds.cons (td_small (i := (a : Nat)) (by omega)) Tds.nil)))).mono (by decide) (by decide)
theorem StandsAs.len {μ : Mu} {x : D} {o : Option (List D)} (h : StandsAs μ x o) : ∀ ds, o = some ds → ds.length ≤ 100000 := by
  rcases h with ⟨ds, rfl, rfl, h, _⟩ | ⟨_, _, _, _, rfl⟩
  · intro z e; cases e; exact h
  · intro z e; cases e
def S_right16 : FS := fun ds μ Φ => ∃ (M N : Mach) (x : D) (o : Option (List D)), ds = [machD M, machD N, x] ∧ M.Ok 24 ∧ N.Ok 24 ∧ M.asks = N.asks ∧ Th μ x o ∧ Φ (.bl true) μ
def S_chright16 : FS := fun ds μ Φ => ∃ (M N : Mach) (L : List (Nat × Nat)), ds = [machD M, machD N, .lst (L.map natP)] ∧ M.Ok 24 ∧ N.Ok 24 ∧ M.asks = N.asks ∧ 0 < L.length ∧ L.length ≤ 5000 ∧ (∀ p ∈ L, p.1 ≤ 1000 ∧ p.2 ≤ 1000) ∧ Φ (.bl true) μ
section
variable {P : Program} {w : World} {K : PySem.W.Frag} {mg : Str → Option Value} {base : Heap}
theorem ok_right16 (B : Src K mg "_law_right" s__law_right ["_law_machine_here", "_law_other_here", "_law_thing"]) (T : Tx mg) (G_pairs_fault : KnG P w K mg base 3 "pairs_fault" ["machine", "other", "thing"] S_pfaultL) (G__law_fault : KnG P w K mg base 2 "_law_fault" ["_law_machine_here", "_law_other_here", "_law_thing"] S_lfaultL) : KnG P w K mg base 4 "_law_right" ["_law_machine_here", "_law_other_here", "_law_thing"] S_right16 := by
  refine kn_ofG B sc__law_right (fun ds μ Φ h => by obtain ⟨_, _, _, _, rfl, _⟩ := h; rfl) fun f cdv A outer s H E grd hr ds μ Φ h => ?_
  obtain ⟨M, N, x, o, rfl, hM, hN, ha, ⟨hS, y, hy, ty⟩, k⟩ := h
  have ha4 := hM.a4
  refine wSs_rho (ρ' := [_, _, _, _, _]) rfl ?_
  -- _law_kept = repr(_law_thing)
  refine w_cons (w_set 3 sc__law_right.nd rfl (.inl rfl) (.inl rfl) ?_)
  refine w_callB (id := "repr") T.b_repr ?_
  refine wa_cons ?_
  refine w_name 2 rfl (.inl rfl) rfl ?_
  refine wa_nil ?_
  refine c_reprTd y hr hy ty ?_
  -- _law_due = _law_fault(_law_machine_here, _law_other_here, _law_thing)
  refine w_cons (w_set 4 sc__law_right.nd rfl (.inl rfl) (.inl rfl) ?_)
  refine w_callG G__law_fault hr ?_
  refine wa_cons ?_
  refine w_name 0 rfl (.inl rfl) rfl ?_
  refine wa_cons ?_
  refine w_name 1 rfl (.inl rfl) rfl ?_
  refine wa_cons ?_
  refine w_name 2 rfl (.inl rfl) rfl ?_
  refine wa_nil ?_
  refine ⟨M, N, x, o, rfl, hM, hN, ha, hS, fun d hd => ?_⟩
  obtain ⟨z, hz, tz⟩ := fault_ty ha4 hd hS.len
  -- if repr(pairs_fault(_law_machine_here, _law_other_here, _law_thing)) != repr(_law_due) or repr(_law_thing) != _law_kept:
  refine w_cons (w_if ?_)
  refine wt_b (false) ?_ ?_
  · refine wt_w ?_
    refine ww_or ?_
    refine wt_cmp ?_
    refine w_callB (id := "repr") T.b_repr ?_
    refine wa_cons ?_
    refine w_callG G_pairs_fault hr ?_
    refine wa_cons ?_
    refine w_name 0 rfl (.inl rfl) rfl ?_
    refine wa_cons ?_
    refine w_name 1 rfl (.inl rfl) rfl ?_
    refine wa_cons ?_
    refine w_name 2 rfl (.inl rfl) rfl ?_
    refine wa_nil ?_
    refine ⟨M, N, x, o, rfl, hM, hN, ha, hS, fun d2 hd2 => ?_⟩
    cases faultO_uniq hd hd2
    refine wa_nil ?_
    refine c_reprTd z hr (hz _) tz ?_
    refine w_callB (id := "repr") T.b_repr ?_
    refine wa_cons ?_
    refine w_name 4 rfl (.inl rfl) rfl ?_
    refine wa_nil ?_
    refine c_reprTd z hr (hz _) tz ?_
    refine o_ne (by rfl) ?_
    rw [str_eqf]
    refine ⟨_, rfl, ?_⟩
    refine ⟨fun hb0 => ?_, fun hb0 => ⟨(by cases hb0), rfl⟩⟩
    refine ww_or1 ?_
    refine wt_cmp ?_
    refine w_callB (id := "repr") T.b_repr ?_
    refine wa_cons ?_
    refine w_name 2 rfl (.inl rfl) rfl ?_
    refine wa_nil ?_
    refine c_reprTd y hr hy ty ?_
    refine w_name 3 rfl (.inl rfl) rfl ?_
    refine o_ne (by rfl) ?_
    rw [str_eqf]
    refine ⟨_, rfl, ?_⟩
    exact ⟨(by rfl), rfl⟩
  refine ⟨fun hb => ?_, fun hb => ?_⟩
  · -- return False
    refine w_cons (w_ret ?_)
    refine w_bl ?_
    cases hb
  refine w_nil ?_
  -- return repr(pairs_fault(_law_machine_here, _law_other_here, _law_thing)) == repr(_law_due)
  refine w_cons (w_ret ?_)
  refine w_cmp ?_
  refine w_callB (id := "repr") T.b_repr ?_
  refine wa_cons ?_
  refine w_callG G_pairs_fault hr ?_
  refine wa_cons ?_
  refine w_name 0 rfl (.inl rfl) rfl ?_
  refine wa_cons ?_
  refine w_name 1 rfl (.inl rfl) rfl ?_
  refine wa_cons ?_
  refine w_name 2 rfl (.inl rfl) rfl ?_
  refine wa_nil ?_
  refine ⟨M, N, x, o, rfl, hM, hN, ha, hS, fun d2 hd2 => ?_⟩
  cases faultO_uniq hd hd2
  refine wa_nil ?_
  refine c_reprTd z hr (hz _) tz ?_
  refine w_callB (id := "repr") T.b_repr ?_
  refine wa_cons ?_
  refine w_name 4 rfl (.inl rfl) rfl ?_
  refine wa_nil ?_
  refine c_reprTd z hr (hz _) tz ?_
  refine o_eq (by rfl) ?_
  rw [str_eqf]
  exact k
theorem ok_chright16 (B : Src K mg "_law_changed_right" s__law_changed_right ["_law_machine_here", "_law_other_here", "_law_pairs"]) (T : Tx mg) (G_pairs_fault : KnG P w K mg base 3 "pairs_fault" ["machine", "other", "thing"] S_pfaultP) (G__law_fault : KnG P w K mg base 2 "_law_fault" ["_law_machine_here", "_law_other_here", "_law_thing"] S_lfaultP) : KnG P w K mg base 4 "_law_changed_right" ["_law_machine_here", "_law_other_here", "_law_pairs"] S_chright16 := by
  refine kn_ofG B sc__law_changed_right (fun ds μ Φ h => by obtain ⟨_, _, _, rfl, _⟩ := h; rfl) fun f cdv A outer s H E grd hr ds μ Φ h => ?_
  obtain ⟨M, N, L, rfl, hM, hN, ha, hL0, hLl, hLn, k⟩ := h
  have ha4 := hM.a4
  have hnl : 0 < (L.map natP).length := by rw [List.length_map]; exact hL0
  refine wSs_rho (ρ' := [_, _, _, _, _]) rfl ?_
  -- _law_handed = list(_law_pairs)
  refine w_cons (w_set 3 sc__law_changed_right.nd rfl (.inl rfl) (.inl rfl) ?_)
  refine w_callTy (T := "list") T.b_list ?_
  refine wa_cons ?_
  refine w_name 2 rfl (.inl rfl) rfl ?_
  refine wa_nil ?_
  refine c_lstL fun pf => ?_
  -- for _law_turn in range(4):
  refine w_cons (w_forV [4] ?_ PassesOwn.never rfl)
  refine wi_rngN T.b_range ?_
  refine w_int ?_
  refine ⟨4, by rfl, by omega, ?_⟩
  refine ⟨_, fun i vs μ' => ∃ (J : List (Nat × Nat)) (w4 : Option D), (∀ p ∈ J, p.1 ≤ 1000 ∧ p.2 ≤ 1000) ∧ (J.length ≤ L.length + i) ∧ (i = 0 → J = L) ∧ (2 ≤ i → 0 < J.length) ∧ vs = [w4] ∧ (pf, .lst (J.map natP)) :: μ = μ', (by first | exact nats_len | exact nats2_len | exact enumD_len.trans (List.length_map _) | exact enumD_len | exact List.length_map _ | exact rfl | simp), ⟨L, _, hLn, (Nat.le_refl _), (fun _ => rfl), (fun z => absurd z (by decide)), rfl, rfl⟩, ?_, ?_⟩
  · rintro turn x vs μ' hx ⟨J, w4, hJn, hJl, hJ0, hJ2, rfl, rfl⟩
    refine wG_rho (ρ' := [_, _, _, _, _]) rfl ?_
    obtain ⟨hturn, rfl⟩ := nats_get hx
    have hjl : (J.map natP).length ≤ 100000 := by rw [List.length_map]; omega
    have hje : ∀ y ∈ J.map natP, Elem μ y := fun y hy => (nat_le hJn (μ := μ) y hy).1
    refine wg_name 4 sc__law_changed_right.nd rfl (.inl rfl) (.inl rfl) ?_
    -- if repr(pairs_fault(_law_machine_here, _law_other_here, _law_handed)) != repr(_law_fault(_law_machine_here, _law_other_here, _law_handed)):
    refine w_cons (w_if ?_)
    refine wt_cmp ?_
    refine w_callB (id := "repr") T.b_repr ?_
    refine wa_cons ?_
    refine w_callG G_pairs_fault hr ?_
    refine wa_cons ?_
    refine w_name 0 rfl (.inl rfl) rfl ?_
    refine wa_cons ?_
    refine w_name 1 rfl (.inl rfl) rfl ?_
    refine wa_cons ?_
    refine w_name 3 rfl (.inl rfl) rfl ?_
    refine wa_nil ?_
    refine ⟨M, N, pf, J.map natP, μ, rfl, rfl, hM, hN, ha, hjl, hje, fun d hd => ?_⟩
    obtain ⟨z, hz, tz⟩ := fault_ty (o := some (J.map natP)) ha4 hd fun ds e => by cases e; exact hjl
    refine wa_nil ?_
    refine c_reprTd z hr (hz _) tz ?_
    refine w_callB (id := "repr") T.b_repr ?_
    refine wa_cons ?_
    refine w_callG G__law_fault hr ?_
    refine wa_cons ?_
    refine w_name 0 rfl (.inl rfl) rfl ?_
    refine wa_cons ?_
    refine w_name 1 rfl (.inl rfl) rfl ?_
    refine wa_cons ?_
    refine w_name 3 rfl (.inl rfl) rfl ?_
    refine wa_nil ?_
    refine ⟨M, N, pf, J.map natP, μ, rfl, rfl, hM, hN, ha, hjl, hje, fun d2 hd2 => ?_⟩
    cases faultL_uniq hd hd2
    refine wa_nil ?_
    refine c_reprTd z hr (hz _) tz ?_
    refine o_ne (by rfl) ?_
    rw [str_eqf]
    refine ⟨_, rfl, ?_⟩
    refine ⟨fun hb => ?_, fun hb => ?_⟩
    · -- return False
      refine w_cons (w_ret (w_dr ?_))
      refine w_bl ?_
      cases hb
    refine w_nil ?_
    -- if _law_turn == 0:
    refine w_cons (w_if ?_)
    refine wt_cmp ?_
    refine w_name 4 rfl (.inl rfl) rfl ?_
    refine w_int ?_
    walk_at "Eq"
    refine ⟨_, rfl, ?_⟩
    refine ⟨fun hb => ?_, fun hbA => ?_⟩
    · -- _law_handed.pop()
      refine w_cons (w_expr ?_)
      refine w_pop ?_
      refine w_name 3 rfl (.inl rfl) rfl ?_
      first | refine ⟨.inl ⟨rfl, 0, _, rfl⟩, ?_⟩ | refine ⟨.inl ⟨rfl, 1, _, rfl⟩, ?_⟩ | refine ⟨.inl ⟨rfl, 2, _, rfl⟩, ?_⟩ | refine ⟨.inl ⟨rfl, 3, _, rfl⟩, ?_⟩ | refine ⟨rfl, ?_⟩
      have hJ9 := hJ0 (by have := of_decide_eq_true hb; omega)
      subst hJ9
      obtain ⟨l9, z9, hl9⟩ : ∃ l z, J = l ++ [z] := ⟨J.dropLast, J.getLast (fun z => by rw [z] at hL0; cases hL0), (List.dropLast_concat_getLast _).symm⟩
      refine m_pop 0 rfl (d := natP z9) (by rw [hl9]; exact pop_at) ?_
      rw [show (J.map natP).dropLast = l9.map natP from by rw [hl9, List.map_append]; exact List.dropLast_concat]
      refine w_nil ?_
      refine w_nil ?_
      have ht0 : turn = 0 := by have := of_decide_eq_true hb; omega
      exact ⟨[_], rfl, ⟨l9, _, (fun p hp => hJn p (by rw [hl9]; exact List.mem_append_left _ hp)), (by have := congrArg List.length hl9; rw [List.length_append] at this; change _ = l9.length + 1 at this; omega), (fun z => by omega), (fun z => by omega), rfl, rfl⟩⟩
    · -- if _law_turn == 1:
      refine w_cons (w_if ?_)
      refine wt_cmp ?_
      refine w_name 4 rfl (.inl rfl) rfl ?_
      refine w_int ?_
      walk_at "Eq"
      refine ⟨_, rfl, ?_⟩
      refine ⟨fun hb => ?_, fun hbB => ?_⟩
      · -- _law_handed.append(_law_pairs[-1])
        refine w_cons (w_expr ?_)
        refine w_append ?_
        refine w_name 3 rfl (.inl rfl) rfl ?_
        first | refine ⟨.inl ⟨rfl, 0, _, rfl⟩, ?_⟩ | refine ⟨.inl ⟨rfl, 1, _, rfl⟩, ?_⟩ | refine ⟨.inl ⟨rfl, 2, _, rfl⟩, ?_⟩ | refine ⟨.inl ⟨rfl, 3, _, rfl⟩, ?_⟩ | refine ⟨rfl, ?_⟩
        refine wa_cons ?_
        refine w_ix ?_
        refine w_name 2 rfl (.inl rfl) rfl ?_
        refine w_un ?_
        refine w_int ?_
        walk_at "USub"
        obtain ⟨l8, z8, hl8⟩ : ∃ l z, L = l ++ [z] := ⟨L.dropLast, L.getLast (fun z => by rw [z] at hL0; cases hL0), (List.dropLast_concat_getLast _).symm⟩
        have hz8 := hLn z8 (by rw [hl8]; simp)
        refine ix_lstN (d := natP z8) (l := l8.map natP) (by rw [hl8, List.map_append]; rfl) ?_
        refine wa_nil ?_
        refine m_append 0 rfl (by rw [List.length_map]; omega) ?_
        rw [show J.map natP ++ [natP z8] = (J ++ [z8]).map natP from by rw [List.map_append]; rfl]
        refine w_nil ?_
        refine w_nil ?_
        refine w_nil ?_
        have h1 := of_decide_eq_false hbA
        exact ⟨[_], rfl, ⟨(J ++ [z8]), _, (fun p hp => (List.mem_append.mp hp).elim (hJn p) fun z => by rw [List.mem_singleton] at z; subst z; exact hz8), (by rw [List.length_append]; show J.length + 1 ≤ _; omega), (fun z => by omega), (fun z => by rw [List.length_append]; show 0 < J.length + 1; omega), rfl, rfl⟩⟩
      · -- _law_handed[0] = _law_pairs[-1]
        refine w_cons (w_lset ?_)
        refine w_ix ?_
        refine w_name 2 rfl (.inl rfl) rfl ?_
        refine w_un ?_
        refine w_int ?_
        walk_at "USub"
        obtain ⟨l8, z8, hl8⟩ : ∃ l z, L = l ++ [z] := ⟨L.dropLast, L.getLast (fun z => by rw [z] at hL0; cases hL0), (List.dropLast_concat_getLast _).symm⟩
        have hz8 := hLn z8 (by rw [hl8]; simp)
        refine ix_lstN (d := natP z8) (l := l8.map natP) (by rw [hl8, List.map_append]; rfl) ?_
        refine w_name 3 rfl (.inl rfl) rfl ?_
        refine w_int ?_
        have h2j := hJ2 (by have h1 := of_decide_eq_false hbA; have h2 := of_decide_eq_false hbB; omega)
        refine ⟨pf, 0, _, 0, rfl, rfl, rfl, by rw [List.length_map]; exact h2j, ?_⟩
        rw [← List.map_set]
        refine w_nil ?_
        refine w_nil ?_
        refine w_nil ?_
        have h1 := of_decide_eq_false hbA
        have h2 := of_decide_eq_false hbB
        exact ⟨[_], rfl, ⟨(J.set 0 z8), _, (fun p hp => (List.mem_or_eq_of_mem_set hp).elim (hJn p) fun z => by subst z; exact hz8), (by rw [List.length_set]; omega), (fun z => by omega), (fun z => by rw [List.length_set]; omega), rfl, rfl⟩⟩
  rintro vs μ' ⟨J, w4, hJn, hJl, hJ0, hJ2, rfl, rfl⟩
  refine wSs_rho (ρ' := [_, _, _, _, _]) rfl ?_
  -- return True
  refine w_cons (w_ret (w_dr ?_))
  refine w_bl ?_
  exact ⟨_, List.sublist_cons_self _ _, k⟩
end
end L16

namespace L16
open PySem PySem.Spec L2 Oc
open Evl (Ex)
local macro_rules | `(tactic| walk_at "s") => `(tactic| first | assumption | omega | decide | (simp only [] at *; omega))
local macro_rules | `(tactic| walk_at "Add") => `(tactic| first | refine o_addN ?_ | refine o_add ?_ | refine o_addS (by walk_at "s") ?_ | refine o_addT (by walk_at "s") ?_ | refine o_addL (by walk_at "s") ?_)
local macro_rules | `(tactic| walk_at "Sub") => `(tactic| refine o_sub ?_)
local macro_rules | `(tactic| walk_at "Mult") => `(tactic| refine o_mul (by walk_at "s") ?_)
local macro_rules | `(tactic| walk_at "Mod") => `(tactic| first | refine o_modN (by walk_at "s") ?_ | refine o_mod (by walk_at "s") ?_)
local macro_rules | `(tactic| walk_at "FloorDiv") => `(tactic| first | refine o_divN (by walk_at "s") ?_ | refine o_div (by walk_at "s") ?_)
local macro_rules | `(tactic| walk_at "Pow") => `(tactic| refine o_pow (by walk_at "s") ?_)
local macro_rules | `(tactic| walk_at "LShift") => `(tactic| refine o_shl (by walk_at "s") ?_)
local macro_rules | `(tactic| walk_at "RShift") => `(tactic| refine o_shr (by walk_at "s") ?_)
local macro_rules | `(tactic| walk_at "BitAnd") => `(tactic| refine o_band ?_)
local macro_rules | `(tactic| walk_at "BitXor") => `(tactic| refine o_bxor ?_)
local macro_rules | `(tactic| walk_at "BitOr") => `(tactic| refine o_bor ?_)
local macro_rules | `(tactic| walk_at "Lt") => `(tactic| refine o_lt ?_)
local macro_rules | `(tactic| walk_at "LtE") => `(tactic| refine o_le ?_)
local macro_rules | `(tactic| walk_at "Gt") => `(tactic| refine o_gt ?_)
local macro_rules | `(tactic| walk_at "GtE") => `(tactic| refine o_ge ?_)
local macro_rules | `(tactic| walk_at "Eq") => `(tactic| refine o_eq (by rfl) ?_)
local macro_rules | `(tactic| walk_at "NotEq") => `(tactic| refine o_ne (by rfl) ?_)
local macro_rules | `(tactic| walk_at "Is") => `(tactic| refine o_isN ?_)
local macro_rules | `(tactic| walk_at "IsNot") => `(tactic| refine o_notN ?_)
local macro_rules | `(tactic| walk_at "In") => `(tactic| refine o_in (by first | exact .inl rfl | exact .inr (.inl rfl) | exact .inr (.inr rfl)) (by rfl) (by rfl) ?_)
local macro_rules | `(tactic| walk_at "NotIn") => `(tactic| refine o_nin (by first | exact .inl rfl | exact .inr (.inl rfl) | exact .inr (.inr rfl)) (by rfl) (by rfl) ?_)
local macro_rules | `(tactic| walk_at "c_abs") => `(tactic| refine c_abs ?_)
local macro_rules | `(tactic| walk_at "c_len") => `(tactic| first | refine c_lenL ?_ | refine c_lenC ?_ | refine c_lenT ?_ | refine c_lenS (by walk_at "s") ?_ | refine c_lenP 0 (by first | assumption | rfl) ?_)
local macro_rules | `(tactic| walk_at "c_str") => `(tactic| refine c_str (by walk_at "s") ?_)
local macro_rules | `(tactic| walk_at "c_isinstance") => `(tactic| refine c_isi rfl (by rfl) ?_)
local macro_rules | `(tactic| walk_at "sl") => `(tactic| first | refine sd_tup ?_ | refine sd_lst ?_)
local macro_rules | `(tactic| walk_at "c_tuple") => `(tactic| first | refine c_tupL ?_ | refine c_tupP 0 (by first | assumption | rfl) ?_ | refine c_tupT ?_)
local macro_rules | `(tactic| walk_at "c_int") => `(tactic| first | refine c_intB ?_)
local macro_rules | `(tactic| walk_at "USub") => `(tactic| refine u_neg ?_)
local macro_rules | `(tactic| walk_at "pen") => `(tactic| first | assumption | exact get_set (by assumption) | exact get_set (get_set (by assumption)) | exact get_here | (apply get_cons; walk_at "pen") | (apply get_app; walk_at "pen"))
local macro_rules | `(tactic| walk_at "mu") => `(tactic| simp only [List.set_cons_succ, List.set_set, List.set_cons_zero])
/-! ### whether all is told -/
def rNotInT (K : PySem.W.Frag) : R2 := fun x y H Q => ∃ d ds, Dp K H x d ∧ Dp K H y (.tuple ds) ∧ SeqAt.shaped d = true ∧ SeqAt.shaped (.tuple ds) = true ∧ Q (.bl (!ds.any fun z => PyData.eqv z d)) H
theorem op_notInT {X : Cx} (hu : X.A.units + 65 < cLine) : OpR X (compareOp .NotIn) (rNotInT X.K) := by
  intro pins s σ H x y v u Q I rx ry h
  obtain ⟨d, ds, hd, he, sd, se, q⟩ := h
  obtain ⟨as, r1⟩ := Dp.reads I d x v hd rx
  obtain ⟨bs, r2⟩ := Dp.reads I (.tuple ds) y u he ry
  exact SeqAt.notIn_tuple_reads r2 r1 (SeqAt.canLay_of_shaped se) (SeqAt.canLay_of_shaped sd) (PyProof.Rows.room_in_shaped sd hu) ⟨.bl _, H, I, rfl, q⟩
theorem o_ninTY {X : Cy} {μ : Mu} {Φ : D → Mu → Prop} {d : D} {n k0 : Nat} {ds : List D} (hu : X.c.A.units + 65 < cLine) (h1 : Ly d n) (h2 : Lys ds k0) (k : Φ (.bl (!ds.any fun z => PyData.eqv z.py d.py)) μ) (hn : n ≤ 60 := by decide) (hk : k0 ≤ 60 := by decide) : wOp X (compareOp .NotIn) d (.tup ds) μ Φ := wop_of (op_notInT hu) fun F H u v hs r1 r2 Q kt => by
  have e : (D.tup ds).py = .tuple (D.pys ds) := by simp only [D.py]
  refine ⟨_, D.pys ds, rep_py hs.ex r1 h1.st, e ▸ rep_py hs.ex r2 (Ly.tup h2).st, h1.shaped (by omega), e ▸ (Ly.tup h2).shaped (by omega), ?_⟩
  rw [pys_py, List.any_map]
  exact kt.now k hs (.bl _)
theorem ly_w16 {w : Str} (h : PyData.canLay0 (.str w) = true) : Ly (.str w) 0 := ⟨by simp only [D.still], by simp only [D.py]; exact h, by simp only [D.py, PyData.depth]; exact Nat.le_refl _⟩
theorem ly_shape : Ly (.tup [.str "shape"]) 1 := Ly.tup (.cons (ly_w16 (by decide +kernel)) .nil)
theorem ly_begin : Ly (.tup [.str "begin"]) 1 := Ly.tup (.cons (ly_w16 (by decide +kernel)) .nil)
theorem fault_ly {M N : Mach} {o : Option (List D)} {d : D} (h : FaultO M N o d) : Ly d 1 := by
  cases o with
  | none => cases h; exact ly_shape
  | some ds =>
    rcases h with ⟨_, rfl⟩ | ⟨L, rfl, _, ⟨_, rfl⟩ | ⟨_, ⟨rfl, _⟩ | ⟨k, p, a, w, hk, ha, hw, rfl, _, _⟩⟩⟩
    · exact ly_shape
    · exact ly_begin
    · exact Ly.non.mono (by decide)
    · refine Ly.tup (.cons (ly_w16 ?_) (.cons (.int _) (.cons (.int _) .nil)))
      rcases wordF_w hw with rfl | rfl | rfl <;> decide +kernel
theorem fault_begun {μ : Mu} {x d : D} {o : Option (List D)} {M N : Mach} (hS : StandsAs μ x o) (h : FaultO M N o d) (hn : (!([D.tup [.str "shape"], .tup [.str "begin"]].any fun z => PyData.eqv z.py d.py)) = true) : ∃ L2 : List (Nat × Nat), x = .lst (L2.map natP) ∧ o = some (L2.map natP) ∧ (∀ p ∈ L2, InP M N p) ∧ 0 < L2.length := by
  have n1 : d ≠ .tup [.str "shape"] := fun e => by
    subst e
    simp [D.py, D.pys, PyData.eqv, PyData.eqvAll] at hn
  have n2 : d ≠ .tup [.str "begin"] := fun e => by
    subst e
    simp [D.py, D.pys, PyData.eqv, PyData.eqvAll] at hn
  cases o with
  | none => exact absurd h n1
  | some ds =>
    rcases h with ⟨_, h⟩ | ⟨L, rfl, hL, ⟨_, h⟩ | ⟨h0, _⟩⟩
    · exact absurd h n1
    · exact absurd h n2
    · rcases hS with ⟨ds, rfl, e, _⟩ | ⟨_, _, _, _, e⟩
      · cases e
        exact ⟨L, rfl, rfl, hL, List.length_pos_of_mem h0⟩
      · cases e
section
variable {P : Program} {w : World} {K : PySem.W.Frag} {mg : Str → Option Value} {base : Heap}
theorem ok_law {f : Addr} {fd : FuncData} (FL : Fun K "law" "law" s_law f fd) (T : Tx mg) (G__law_pen : KnG P w K mg base 1 "_law_pen" ["_law_script"] S_pen) (G__law_take : KnG P w K mg base 1 "_law_take" ["_law_pen_here", "_law_many"] S_take) (G__law_machine : KnG P w K mg base 3 "_law_machine" ["_law_pen_here", "_law_asks", "_law_many"] S_machine) (G__law_other : KnG P w K mg base 4 "_law_other" ["_law_pen_here", "_law_machine_here"] S_other) (G__law_spoiled : KnG P w K mg base 2 "_law_spoiled" ["_law_pen_here", "_law_machine_here"] S_spoiled) (G__law_led : KnG P w K mg base 1 "_law_led" ["_law_machine_here", "_law_other_here"] S_led16) (G__law_right : KnG P w K mg base 4 "_law_right" ["_law_machine_here", "_law_other_here", "_law_thing"] S_right16) (G__law_changed_right : KnG P w K mg base 4 "_law_changed_right" ["_law_machine_here", "_law_other_here", "_law_pairs"] S_chright16) (G__law_bent : KnG P w K mg base 3 "_law_bent" ["_law_pen_here", "_law_pairs", "_law_machine_here", "_law_other_here"] S_bent16) (G__law_fault : KnG P w K mg base 2 "_law_fault" ["_law_machine_here", "_law_other_here", "_law_thing"] S_lfaultL) : FnG P w K mg base 5 f fd ["_law_script"] S_law := by
  refine fnG_of FL sc_law (fun ds μ Φ h => by obtain ⟨_, rfl, _⟩ := h; rfl) fun cdv A outer s H E grd hr ds μ Φ h => ?_
  obtain ⟨ns, rfl, hns, k⟩ := h
  refine wSs_rho (ρ' := [_, _, _, _, _, _, _, _, _, _, _]) rfl ?_
  -- _law_pen_here = _law_pen(_law_script)
  refine w_cons (w_set 1 sc_law.nd rfl (.inl rfl) (.inl rfl) ?_)
  refine w_callG G__law_pen hr ?_
  refine wa_cons ?_
  refine w_name 0 rfl (.inl rfl) rfl ?_
  refine wa_nil ?_
  refine ⟨ns, rfl, hns, fun p => ?_⟩
  -- for _law_turn in range(2):
  refine w_cons (w_forV [2, 3, 4, 5, 6, 7, 8, 9, 10] ?_ PassesOwn.never rfl)
  refine wi_rngN T.b_range ?_
  refine w_int ?_
  refine ⟨2, by rfl, by omega, ?_⟩
  refine ⟨_, fun i vs μ' => ∃ (c : Nat) (w2 w3 w4 w5 w6 w7 w8 w9 w10 : Option D), (c ≤ 60000 * i) ∧ vs = [w2, w3, w4, w5, w6, w7, w8, w9, w10] ∧ (p, penW ns c) :: μ = μ', (by first | exact nats_len | exact nats2_len | exact enumD_len.trans (List.length_map _) | exact enumD_len | exact List.length_map _ | exact rfl | simp), ⟨0, _, _, _, _, _, _, _, _, _, (Nat.zero_le _), rfl, rfl⟩, ?_, ?_⟩
  · rintro turn x vs μ' hx ⟨c, w2, w3, w4, w5, w6, w7, w8, w9, w10, hc, rfl, rfl⟩
    refine wG_rho (ρ' := [_, _, _, _, _, _, _, _, _, _, _]) rfl ?_
    obtain ⟨hturn, rfl⟩ := nats_get hx
    refine wg_name 2 sc_law.nd rfl (.inl rfl) (.inl rfl) ?_
    -- _law_way = _law_take(_law_pen_here, 4)
    refine w_cons (w_set 3 sc_law.nd rfl (.inl rfl) (.inl rfl) ?_)
    refine w_callG G__law_take hr ?_
    refine wa_cons ?_
    refine w_name 1 rfl (.inl rfl) rfl ?_
    refine wa_cons ?_
    refine w_int ?_
    refine wa_nil ?_
    refine ⟨_, _, _, _, _, rfl, by walk_at "pen", by omega, by omega, fun r1 μ1 hr1 e1 => ?_⟩
    try simp only [List.set_cons_succ, List.set_set, List.set_cons_zero] at e1
    subst e1
    -- _law_great = _law_take(_law_pen_here, 4) == 3
    refine w_cons (w_set 4 sc_law.nd rfl (.inl rfl) (.inl rfl) ?_)
    refine w_cmp ?_
    refine w_callG G__law_take hr ?_
    refine wa_cons ?_
    refine w_name 1 rfl (.inl rfl) rfl ?_
    refine wa_cons ?_
    refine w_int ?_
    refine wa_nil ?_
    refine ⟨_, _, _, _, _, rfl, by walk_at "pen", by omega, by omega, fun r2 μ2 hr2 e2 => ?_⟩
    try simp only [List.set_cons_succ, List.set_set, List.set_cons_zero] at e2
    subst e2
    refine w_int ?_
    walk_at "Eq"
    obtain ⟨gr, hgr⟩ : ∃ gr, gr = D.eqf (.int (r2 : Nat)) (.int 3) := ⟨_, rfl⟩
    rw [← hgr]
    -- _law_machine_here = _law_machine(_law_pen_here, 1 + _law_take(_law_pen_here, 4), 1 + _law_take(_law_pen_here, [8, 24][int(_law_great)]))
    refine w_cons (w_set 5 sc_law.nd rfl (.inl rfl) (.inl rfl) ?_)
    refine w_callG G__law_machine hr ?_
    refine wa_cons ?_
    refine w_name 1 rfl (.inl rfl) rfl ?_
    refine wa_cons ?_
    refine w_bin ?_
    refine w_int ?_
    refine w_callG G__law_take hr ?_
    refine wa_cons ?_
    refine w_name 1 rfl (.inl rfl) rfl ?_
    refine wa_cons ?_
    refine w_int ?_
    refine wa_nil ?_
    refine ⟨_, _, _, _, _, rfl, by walk_at "pen", by omega, by omega, fun r3 μ3 hr3 e3 => ?_⟩
    try simp only [List.set_cons_succ, List.set_set, List.set_cons_zero] at e3
    subst e3
    first | refine o_addN (a := 1) ?_ | walk_at "Add"
    refine wa_cons ?_
    refine w_bin ?_
    refine w_int ?_
    refine w_callG G__law_take hr ?_
    refine wa_cons ?_
    refine w_name 1 rfl (.inl rfl) rfl ?_
    refine wa_cons ?_
    refine w_ix ?_
    refine w_lst ?_
    refine wa_cons ?_
    refine w_int ?_
    refine wa_cons ?_
    refine w_int ?_
    refine wa_nil ?_
    refine ⟨by simp, ?_⟩
    refine w_callTy (T := "int") T.b_int ?_
    refine wa_cons ?_
    refine w_name 4 rfl (.inl rfl) rfl ?_
    refine wa_nil ?_
    walk_at "c_int"
    obtain ⟨mx, hmx, hmx0, hmx1⟩ : ∃ mx : Nat, [D.int 8, D.int 24][if gr then 1 else 0]? = some (.int mx) ∧ 0 < mx ∧ mx ≤ 24 := by
      cases gr
      · exact ⟨8, rfl, by decide, by decide⟩
      · exact ⟨24, rfl, by decide, by decide⟩
    refine ix_lstD (if gr then 1 else 0) (by cases gr <;> rfl) hmx ?_
    refine wa_nil ?_
    refine ⟨_, _, _, _, _, rfl, by walk_at "pen", by omega, by omega, fun r4 μ4 hr4 e4 => ?_⟩
    try simp only [List.set_cons_succ, List.set_set, List.set_cons_zero] at e4
    subst e4
    first | refine o_addN (a := 1) ?_ | walk_at "Add"
    refine wa_nil ?_
    refine ⟨ns, _, p, 0, 1 + r3, 1 + r4, rfl, by walk_at "pen", by omega, by omega, by omega, fun M c5 μ5 hMa hMl hM hc5 e5 => ?_⟩
    rw [List.set_cons_zero] at e5
    subst e5
    -- _law_other_here = _law_other(_law_pen_here, _law_machine_here)
    refine w_cons (w_set 6 sc_law.nd rfl (.inl rfl) (.inl rfl) ?_)
    refine w_callG G__law_other hr ?_
    refine wa_cons ?_
    refine w_name 1 rfl (.inl rfl) rfl ?_
    refine wa_cons ?_
    refine w_name 5 rfl (.inl rfl) rfl ?_
    refine wa_nil ?_
    refine ⟨ns, _, p, 0, M, rfl, by walk_at "pen", by omega, hM, fun N0 c6 μ6 hN0 hNa0 hNc0 hc6 e6 => ?_⟩
    rw [List.set_cons_zero] at e6
    subst e6
    -- if _law_way == 0:
    refine w_cutV [6] (fun vs μ' => ∃ (N : Mach) (c7 : Nat), (N.Ok 24) ∧ (N.asks = M.asks) ∧ (c7 ≤ c6 + 1001) ∧ vs = [some (machD N)] ∧ (p, penW ns c7) :: μ = μ') (w_if ?_) ?_
    · refine wt_cmp ?_
      refine w_name 3 rfl (.inl rfl) rfl ?_
      refine w_int ?_
      walk_at "Eq"
      refine ⟨_, rfl, ?_⟩
      refine ⟨fun hb => ?_, fun hb => ?_⟩
      · -- _law_other_here = _law_machine(_law_pen_here, _law_machine_here[0], 1 + _law_take(_law_pen_here, 8))
        refine w_cons (w_set 6 sc_law.nd rfl (.inl rfl) (.inl rfl) ?_)
        refine w_callG G__law_machine hr ?_
        refine wa_cons ?_
        refine w_name 1 rfl (.inl rfl) rfl ?_
        refine wa_cons ?_
        refine w_ix ?_
        refine w_name 5 rfl (.inl rfl) rfl ?_
        refine w_int ?_
        first | refine ix_tupD 0 rfl rfl ?_ | refine ix_lstD 0 rfl rfl ?_ | refine ix_tupD 0 rfl (by assumption) ?_ | refine ix_lstD 0 rfl (by assumption) ?_ | refine ix_ptrD 0 rfl 0 rfl rfl ?_ | refine ix_ptrD 1 rfl 0 rfl rfl ?_ | refine ix_ptrD 2 rfl 0 rfl rfl ?_
        refine wa_cons ?_
        refine w_bin ?_
        refine w_int ?_
        refine w_callG G__law_take hr ?_
        refine wa_cons ?_
        refine w_name 1 rfl (.inl rfl) rfl ?_
        refine wa_cons ?_
        refine w_int ?_
        refine wa_nil ?_
        refine ⟨_, _, _, _, _, rfl, by walk_at "pen", by omega, by omega, fun r5 μ5 hr5 e5 => ?_⟩
        try simp only [List.set_cons_succ, List.set_set, List.set_cons_zero] at e5
        subst e5
        first | refine o_addN (a := 1) ?_ | walk_at "Add"
        refine wa_nil ?_
        have hMa0 := hM.a0
        have hMa4 := hM.a4
        refine ⟨ns, _, p, 0, M.asks, 1 + r5, rfl, by walk_at "pen", by omega, by omega, by omega, fun N1 c8 μ8 hN1a hN1l hN1 hc8 e8 => ?_⟩
        rw [List.set_cons_zero] at e8
        subst e8
        refine w_nil ?_
        exact ⟨[_], rfl, ⟨N1, c8, hN1, hN1a, (by omega), rfl, rfl⟩⟩
      · refine w_nil ?_
        exact ⟨[_], rfl, ⟨N0, c6, hN0, hNa0, (by omega), rfl, rfl⟩⟩
    rintro vs μ' ⟨N, c7, hN, hNa, hc7, rfl, rfl⟩
    refine wSs_rho (ρ' := [_, _, _, _, _, _, _, _, _, _, _]) rfl ?_
    -- if _law_way == 1:
    refine w_cutV [6] (fun vs μ' => ∃ (O : Mach) (c9 : Nat), (O.Ok 24) ∧ (O.asks = M.asks) ∧ (c9 ≤ c7 + 10) ∧ vs = [some (machD O)] ∧ (p, penW ns c9) :: μ = μ') (w_if ?_) ?_
    · refine wt_cmp ?_
      refine w_name 3 rfl (.inl rfl) rfl ?_
      refine w_int ?_
      walk_at "Eq"
      refine ⟨_, rfl, ?_⟩
      refine ⟨fun hb => ?_, fun hb => ?_⟩
      · -- _law_other_here = _law_spoiled(_law_pen_here, _law_other_here)
        refine w_cons (w_set 6 sc_law.nd rfl (.inl rfl) (.inl rfl) ?_)
        refine w_callG G__law_spoiled hr ?_
        refine wa_cons ?_
        refine w_name 1 rfl (.inl rfl) rfl ?_
        refine wa_cons ?_
        refine w_name 6 rfl (.inl rfl) rfl ?_
        refine wa_nil ?_
        refine ⟨ns, _, p, 0, N, rfl, by walk_at "pen", by omega, hN, fun N1 c8 μ8 hN1 hN1a hc8 e8 => ?_⟩
        rw [List.set_cons_zero] at e8
        subst e8
        refine w_nil ?_
        exact ⟨[_], rfl, ⟨N1, c8, hN1, (hN1a.trans hNa), (by omega), rfl, rfl⟩⟩
      · refine w_nil ?_
        exact ⟨[_], rfl, ⟨N, c7, hN, hNa, (by omega), rfl, rfl⟩⟩
    rintro vs μ' ⟨O, c9, hO, hOa, hc9, rfl, rfl⟩
    refine wSs_rho (ρ' := [_, _, _, _, _, _, _, _, _, _, _]) rfl ?_
    -- _law_pairs = _law_led(_law_machine_here, _law_other_here)
    refine w_cons (w_set 7 sc_law.nd rfl (.inl rfl) (.inl rfl) ?_)
    refine w_dr (w_fz ?_)
    refine w_callG G__law_led hr ?_
    refine wa_cons ?_
    refine w_name 5 rfl (.inl rfl) rfl ?_
    refine wa_cons ?_
    refine w_name 6 rfl (.inl rfl) rfl ?_
    refine wa_nil ?_
    refine ⟨M, O, rfl, hM, hO, hOa.symm, fun cm pf L hLi hL0 hLl => ⟨1, pf, L.map natP, rfl, rfl, _, List.sublist_cons_self _ _, ?_⟩⟩
    have hLn : ∀ q ∈ L, q.1 ≤ 1000 ∧ q.2 ≤ 1000 := fun q hq => by
      have h1 := hLi q hq
      have h2 := hM.rm
      have h3 := hO.rm
      exact ⟨by have := h1.1; omega, by have := h1.2; omega⟩
    -- if not _law_right(_law_machine_here, _law_other_here, _law_pairs) or not _law_changed_right(_law_machine_here, _law_other_here, _law_pairs):
    refine w_cons (w_if ?_)
    refine wt_b (false) ?_ ?_
    · refine wt_w ?_
      refine ww_or ?_
      refine wt_not ?_
      refine wt_val ?_
      refine w_callG G__law_right hr ?_
      refine wa_cons ?_
      refine w_name 5 rfl (.inl rfl) rfl ?_
      refine wa_cons ?_
      refine w_name 6 rfl (.inl rfl) rfl ?_
      refine wa_cons ?_
      refine w_name 7 rfl (.inl rfl) rfl ?_
      refine wa_nil ?_
      refine ⟨M, O, .lst (L.map natP), some (L.map natP), rfl, hM, hO, hOa.symm, th_list (nat_le hLn) (by rw [List.length_map]; omega), ?_⟩
      refine ⟨_, rfl, ?_⟩
      refine ⟨fun hb0 => ?_, fun hb0 => ⟨(by cases hb0), rfl⟩⟩
      refine ww_or1 ?_
      refine wt_not ?_
      refine wt_val ?_
      refine w_callG G__law_changed_right hr ?_
      refine wa_cons ?_
      refine w_name 5 rfl (.inl rfl) rfl ?_
      refine wa_cons ?_
      refine w_name 6 rfl (.inl rfl) rfl ?_
      refine wa_cons ?_
      refine w_name 7 rfl (.inl rfl) rfl ?_
      refine wa_nil ?_
      refine ⟨M, O, L, rfl, hM, hO, hOa.symm, hL0, by omega, hLn, ?_⟩
      refine ⟨_, rfl, ?_⟩
      exact ⟨(by rfl), rfl⟩
    refine ⟨fun hb => ?_, fun hb => ?_⟩
    · -- return False
      refine w_cons (w_ret ?_)
      refine w_bl ?_
      cases hb
    refine w_nil ?_
    -- for _law_k in range(6):
    refine w_cons (w_forV [8, 9, 10] ?_ PassesOwn.never rfl)
    refine wi_rngN T.b_range ?_
    refine w_int ?_
    refine ⟨6, by rfl, by omega, ?_⟩
    refine ⟨_, fun i vs μ' => ∃ (c2 : Nat) (w8 w9 w10 : Option D), (c2 ≤ c9 + 6000 * i) ∧ vs = [w8, w9, w10] ∧ (p, penW ns c2) :: μ = μ', (by first | exact nats_len | exact nats2_len | exact enumD_len.trans (List.length_map _) | exact enumD_len | exact List.length_map _ | exact rfl | simp), ⟨c9, _, _, _, (by omega), rfl, rfl⟩, ?_, ?_⟩
    · rintro k x vs μ' hx ⟨c2, w8, w9, w10, hc2, rfl, rfl⟩
      refine wG_rho (ρ' := [_, _, _, _, _, _, _, _, _, _, _]) rfl ?_
      obtain ⟨hk, rfl⟩ := nats_get hx
      refine wg_name 8 sc_law.nd rfl (.inl rfl) (.inl rfl) ?_
      -- _law_twice = _law_take(_law_pen_here, 2) == 1
      refine w_cons (w_set 9 sc_law.nd rfl (.inl rfl) (.inl rfl) ?_)
      refine w_cmp ?_
      refine w_callG G__law_take hr ?_
      refine wa_cons ?_
      refine w_name 1 rfl (.inl rfl) rfl ?_
      refine wa_cons ?_
      refine w_int ?_
      refine wa_nil ?_
      refine ⟨_, _, _, _, _, rfl, by walk_at "pen", by omega, by omega, fun r6 μ6 hr6 e6 => ?_⟩
      try simp only [List.set_cons_succ, List.set_set, List.set_cons_zero] at e6
      subst e6
      refine w_int ?_
      walk_at "Eq"
      -- _law_thing = _law_bent(_law_pen_here, _law_pairs, _law_machine_here, _law_other_here)
      refine w_cons (w_set 10 sc_law.nd rfl (.inl rfl) (.inl rfl) ?_)
      refine w_callG G__law_bent hr ?_
      refine wa_cons ?_
      refine w_name 1 rfl (.inl rfl) rfl ?_
      refine wa_cons ?_
      refine w_name 7 rfl (.inl rfl) rfl ?_
      refine wa_cons ?_
      refine w_name 5 rfl (.inl rfl) rfl ?_
      refine wa_cons ?_
      refine w_name 6 rfl (.inl rfl) rfl ?_
      refine wa_nil ?_
      refine ⟨ns, _, p, 0, L, M, O, rfl, by walk_at "pen", by omega, hM, hO, hL0, by omega, hLn, fun d o ν c3 hd ho hc3 => ?_⟩
      rw [List.set_cons_zero] at hd ⊢
      -- if _law_twice and _law_fault(_law_machine_here, _law_other_here, _law_thing) not in (('shape',), ('begin',)):
      refine w_cutV [10] (fun vs μ' => ∃ (x2 : D) (o2 : Option (List D)) (ν2 : Mu) (c4 : Nat), (Th (ν2 ++ (p, penW ns c4) :: μ) x2 o2) ∧ (c4 ≤ c2 + 5500) ∧ vs = [some (x2)] ∧ ν2 ++ (p, penW ns c4) :: μ = μ') (w_if ?_) ?_
      · refine wt_mono (Ψ := (fun b μ1 => μ1 = ν ++ (p, penW ns c3) :: μ ∧ (b = true → ∃ L2 : List (Nat × Nat), d = .lst (L2.map natP) ∧ o = some (L2.map natP) ∧ (∀ p ∈ L2, InP M O p) ∧ 0 < L2.length))) ?_ ?_
        · refine wt_w ?_
          refine ww_and ?_
          refine wt_val ?_
          refine w_name 9 rfl (.inl rfl) rfl ?_
          refine ⟨_, rfl, ?_⟩
          refine ⟨fun hb0 => ?_, fun hb0 => ?_⟩
          rotate_left
          · exact ⟨rfl, fun z => (nomatch z)⟩
          refine ww_and1 ?_
          refine wt_cmp ?_
          refine w_callG G__law_fault hr ?_
          refine wa_cons ?_
          refine w_name 5 rfl (.inl rfl) rfl ?_
          refine wa_cons ?_
          refine w_name 6 rfl (.inl rfl) rfl ?_
          refine wa_cons ?_
          refine w_name 10 rfl (.inl rfl) rfl ?_
          refine wa_nil ?_
          refine ⟨M, O, d, o, rfl, hM, hO, hOa.symm, hd.1, fun e he => ?_⟩
          refine w_tup ?_
          refine wa_cons ?_
          refine w_tup ?_
          refine wa_cons ?_
          refine w_str ?_
          refine wa_nil ?_
          refine ⟨by simp, ?_⟩
          refine wa_cons ?_
          refine w_tup ?_
          refine wa_cons ?_
          refine w_str ?_
          refine wa_nil ?_
          refine ⟨by simp, ?_⟩
          refine wa_nil ?_
          refine ⟨by simp, ?_⟩
          refine o_ninTY hr.un65 (fault_ly he) (.cons ly_shape (.cons ly_begin .nil)) ?_
          refine ⟨_, rfl, ?_⟩
          exact ⟨rfl, fun z => fault_begun hd.1 he z⟩
        rintro b μ1 ⟨rfl, hb9⟩
        refine ⟨fun hb => ?_, fun hb => ?_⟩
        · -- _law_thing = _law_bent(_law_pen_here, _law_thing, _law_machine_here, _law_other_here)
          refine w_cons (w_set 10 sc_law.nd rfl (.inl rfl) (.inl rfl) ?_)
          refine w_callG G__law_bent hr ?_
          refine wa_cons ?_
          refine w_name 1 rfl (.inl rfl) rfl ?_
          refine wa_cons ?_
          refine w_name 10 rfl (.inl rfl) rfl ?_
          refine wa_cons ?_
          refine w_name 5 rfl (.inl rfl) rfl ?_
          refine wa_cons ?_
          refine w_name 6 rfl (.inl rfl) rfl ?_
          refine wa_nil ?_
          obtain ⟨L2, rfl, rfl, hL2i, hL20⟩ := hb9 hb
          have hL2l := ho _ rfl
          rw [List.length_map] at hL2l
          refine ⟨ns, c3, p, ν.length, L2, M, O, rfl, by rw [List.getElem?_append_right (Nat.le_refl _), Nat.sub_self]; rfl, by omega, hM, hO, hL20, by omega, ?_, fun d2 o2 ν2 c4 hd2 ho2 hc4 => ?_⟩
          · intro q hq
            have h1 := hL2i q hq
            have h2 := hM.rm
            have h3 := hO.rm
            exact ⟨by have := h1.1; omega, by have := h1.2; omega⟩
          rw [List.set_append_right _ _ (Nat.le_refl _), Nat.sub_self, List.set_cons_zero, ← List.append_assoc] at hd2 ⊢
          refine w_nil ?_
          exact ⟨[_], rfl, ⟨d2, o2, ν2 ++ ν, c4, hd2, (by omega), rfl, rfl⟩⟩
        · refine w_nil ?_
          exact ⟨[_], rfl, ⟨d, o, ν, c3, hd, (by omega), rfl, rfl⟩⟩
      rintro vs μ' ⟨x2, o2, ν2, c4, hT2, hc4, rfl, rfl⟩
      refine wSs_rho (ρ' := [_, _, _, _, _, _, _, _, _, _, _]) rfl ?_
      -- if not _law_right(_law_machine_here, _law_other_here, _law_thing):
      refine w_cons (w_if ?_)
      refine wt_not ?_
      refine wt_val ?_
      refine w_callG G__law_right hr ?_
      refine wa_cons ?_
      refine w_name 5 rfl (.inl rfl) rfl ?_
      refine wa_cons ?_
      refine w_name 6 rfl (.inl rfl) rfl ?_
      refine wa_cons ?_
      refine w_name 10 rfl (.inl rfl) rfl ?_
      refine wa_nil ?_
      refine ⟨M, O, x2, o2, rfl, hM, hO, hOa.symm, hT2, ?_⟩
      refine ⟨_, rfl, ?_⟩
      refine ⟨fun hb => ?_, fun hb => wSs_sub (List.sublist_append_right _ _) ?_⟩
      · -- return False
        refine w_cons (w_ret ?_)
        refine w_bl ?_
        cases hb
      refine w_nil ?_
      refine w_nil ?_
      exact ⟨[_, _, _], rfl, ⟨c4, _, _, _, (by omega), rfl, rfl⟩⟩
    rintro vs μ' ⟨c2, w8, w9, w10, hc2, rfl, rfl⟩
    refine wSs_rho (ρ' := [_, _, _, _, _, _, _, _, _, _, _]) rfl ?_
    refine w_nil ?_
    exact ⟨[_, _, _, _, _, _, _, _, _], rfl, ⟨c2, _, _, _, _, _, _, _, _, _, (by omega), rfl, rfl⟩⟩
  rintro vs μ' ⟨c, w2, w3, w4, w5, w6, w7, w8, w9, w10, hc, rfl, rfl⟩
  refine wSs_rho (ρ' := [_, _, _, _, _, _, _, _, _, _, _]) rfl ?_
  -- return True
  refine w_cons (w_ret ?_)
  refine w_bl ?_
  exact k _
theorem ok_all {f : Addr} {fd : FuncData} (T : Tx mg) (B0 : Src K mg "is_whole" s_is_whole ["thing"]) (B1 : Src K mg "need_alike" s_need_alike ["machine", "other"]) (B2 : Src K mg "is_pair" s_is_pair ["machine", "other", "thing"]) (B3 : Src K mg "cells_word" s_cells_word ["cell", "beside"]) (B4 : Src K mg "pair_word" s_pair_word ["machine", "other", "there", "here", "ask"]) (B5 : Src K mg "pairs_fault" s_pairs_fault ["machine", "other", "thing"]) (B6 : Src K mg "_law_pen" s__law_pen ["_law_script"]) (B7 : Src K mg "_law_take" s__law_take ["_law_pen_here", "_law_many"]) (B8 : Src K mg "_law_machine" s__law_machine ["_law_pen_here", "_law_asks", "_law_many"]) (B9 : Src K mg "_law_cell" s__law_cell ["_law_pen_here", "_law_share", "_law_wide", "_law_shift", "_law_many"]) (B10 : Src K mg "_law_order" s__law_order ["_law_pen_here", "_law_many"]) (B11 : Src K mg "_law_other" s__law_other ["_law_pen_here", "_law_machine_here"]) (B12 : Src K mg "_law_named" s__law_named ["_law_pen_here", "_law_machine_here"]) (B13 : Src K mg "_law_spoiled" s__law_spoiled ["_law_pen_here", "_law_machine_here"]) (B16 : Src K mg "_law_is_pair" s__law_is_pair ["_law_thing", "_law_many", "_law_more"]) (B17 : Src K mg "_law_fault" s__law_fault ["_law_machine_here", "_law_other_here", "_law_thing"]) (B18 : Src K mg "_law_bent_pair" s__law_bent_pair ["_law_pen_here", "_law_pair", "_law_many"]) (B19 : Src K mg "_law_bent" s__law_bent ["_law_pen_here", "_law_pairs", "_law_machine_here", "_law_other_here"]) (B20 : Src K mg "_law_led" s__law_led ["_law_machine_here", "_law_other_here"]) (B21 : Src K mg "_law_right" s__law_right ["_law_machine_here", "_law_other_here", "_law_thing"]) (B22 : Src K mg "_law_changed_right" s__law_changed_right ["_law_machine_here", "_law_other_here", "_law_pairs"]) (FL : Fun K "law" "law" s_law f fd) : FnG P w K mg base 5 f fd ["_law_script"] S_law :=
  have GT := ok_take (P := P) (w := w) (base := base) B7 T
  have GA := ok_alike (P := P) (w := w) (base := base) B1 T
  have GI := ok_ispair16 B2 T (ok_whole16 (P := P) (w := w) (base := base) B0 T)
  have GW := ok_pword16 B4 T (ok_word (P := P) (w := w) (base := base) B3 T)
  have GPL := ok_pfaultL B5 T GA GI GW
  have GPP := ok_pfaultP B5 T GA GI GW
  have GJ := ok_lispair16 (P := P) (w := w) (base := base) B16 T
  have GLL := ok_lfaultL B17 T GJ
  have GLP := ok_lfaultP B17 T GJ
  have GO := ok_order B10 T GT
  ok_law FL T (ok_pen B6 T) GT (ok_machine B8 T GT (ok_cell B9 T GT)) (ok_other B11 T GT (ok_named B12 T GO)) (ok_spoiled B13 T GT) (ok_led16 B20 T) (ok_right16 B21 T GPL GLL) (ok_chright16 B22 T GPP GLP) (ok_bent16 B19 T GT GO (ok_bpair B18 T GT)) GLL
end
end L16

namespace L16
open PySem PySem.Spec L2 Oc
theorem all_mk {l : PySem.W.OpenLaw} {w : World} {K : PySem.W.Frag} {h : Heap} {mg : Str → Option Value} {fa f0 f1 f2 f3 f4 f5 f6 f7 f8 f9 f10 f11 f12 f13 f16 f17 f18 f19 f20 f21 f22 f23 : Addr} (X : K.In h) (G : h.Ns mainGlobals mg) (hfa : mg "law" = some (.ref fa))
    {od0 an0 od1 an1 od2 an2 od3 an3 od4 an4 od5 an5 od6 an6 od7 an7 od8 an8 od9 an9 od10 an10 od11 an11 od12 an12 od13 an13 od16 an16 od17 an17 od18 an18 od19 an19 od20 an20 od21 an21 od22 an22 od23 an23 : Option Addr} {sl0 sl1 sl2 sl3 sl4 sl5 sl6 sl7 sl8 sl9 sl10 sl11 sl12 sl13 sl16 sl17 sl18 sl19 sl20 sl21 sl22 sl23 : Array (Option Value)} {oc0 kV0 dc0 pm0 cd0 ct0 oc1 kV1 dc1 pm1 cd1 ct1 oc2 kV2 dc2 pm2 cd2 ct2 oc3 kV3 dc3 pm3 cd3 ct3 oc4 kV4 dc4 pm4 cd4 ct4 oc5 kV5 dc5 pm5 cd5 ct5 oc6 kV6 dc6 pm6 cd6 ct6 oc7 kV7 dc7 pm7 cd7 ct7 oc8 kV8 dc8 pm8 cd8 ct8 oc9 kV9 dc9 pm9 cd9 ct9 oc10 kV10 dc10 pm10 cd10 ct10 oc11 kV11 dc11 pm11 cd11 ct11 oc12 kV12 dc12 pm12 cd12 ct12 oc13 kV13 dc13 pm13 cd13 ct13 oc16 kV16 dc16 pm16 cd16 ct16 oc17 kV17 dc17 pm17 cd17 ct17 oc18 kV18 dc18 pm18 cd18 ct18 oc19 kV19 dc19 pm19 cd19 ct19 oc20 kV20 dc20 pm20 cd20 ct20 oc21 kV21 dc21 pm21 cd21 ct21 oc22 kV22 dc22 pm22 cd22 ct22 oc23 kV23 dc23 pm23 cd23 ct23 : Value}
    (a0 : PySem.W.nsIn K mainGlobals "is_whole" = some (some (.ref f0))) (l0 : K.lookup f0 = some ⟨oc0, od0, .func (PySem.W.fnOf "is_whole" "is_whole" (defArgs s_is_whole) (defBody s_is_whole) (defScope s_is_whole) .none kV0 dc0 pm0 an0 cd0 ct0), sl0⟩) (c0 : PySem.W.codeIn K cd0 "is_whole" = true) (k0 : PySem.W.keepIn K (.ref f0) = true)
    (a1 : PySem.W.nsIn K mainGlobals "need_alike" = some (some (.ref f1))) (l1 : K.lookup f1 = some ⟨oc1, od1, .func (PySem.W.fnOf "need_alike" "need_alike" (defArgs s_need_alike) (defBody s_need_alike) (defScope s_need_alike) .none kV1 dc1 pm1 an1 cd1 ct1), sl1⟩) (c1 : PySem.W.codeIn K cd1 "need_alike" = true) (k1 : PySem.W.keepIn K (.ref f1) = true)
    (a2 : PySem.W.nsIn K mainGlobals "is_pair" = some (some (.ref f2))) (l2 : K.lookup f2 = some ⟨oc2, od2, .func (PySem.W.fnOf "is_pair" "is_pair" (defArgs s_is_pair) (defBody s_is_pair) (defScope s_is_pair) .none kV2 dc2 pm2 an2 cd2 ct2), sl2⟩) (c2 : PySem.W.codeIn K cd2 "is_pair" = true) (k2 : PySem.W.keepIn K (.ref f2) = true)
    (a3 : PySem.W.nsIn K mainGlobals "cells_word" = some (some (.ref f3))) (l3 : K.lookup f3 = some ⟨oc3, od3, .func (PySem.W.fnOf "cells_word" "cells_word" (defArgs s_cells_word) (defBody s_cells_word) (defScope s_cells_word) .none kV3 dc3 pm3 an3 cd3 ct3), sl3⟩) (c3 : PySem.W.codeIn K cd3 "cells_word" = true) (k3 : PySem.W.keepIn K (.ref f3) = true)
    (a4 : PySem.W.nsIn K mainGlobals "pair_word" = some (some (.ref f4))) (l4 : K.lookup f4 = some ⟨oc4, od4, .func (PySem.W.fnOf "pair_word" "pair_word" (defArgs s_pair_word) (defBody s_pair_word) (defScope s_pair_word) .none kV4 dc4 pm4 an4 cd4 ct4), sl4⟩) (c4 : PySem.W.codeIn K cd4 "pair_word" = true) (k4 : PySem.W.keepIn K (.ref f4) = true)
    (a5 : PySem.W.nsIn K mainGlobals "pairs_fault" = some (some (.ref f5))) (l5 : K.lookup f5 = some ⟨oc5, od5, .func (PySem.W.fnOf "pairs_fault" "pairs_fault" (defArgs s_pairs_fault) (defBody s_pairs_fault) (defScope s_pairs_fault) .none kV5 dc5 pm5 an5 cd5 ct5), sl5⟩) (c5 : PySem.W.codeIn K cd5 "pairs_fault" = true) (k5 : PySem.W.keepIn K (.ref f5) = true)
    (a6 : PySem.W.nsIn K mainGlobals "_law_pen" = some (some (.ref f6))) (l6 : K.lookup f6 = some ⟨oc6, od6, .func (PySem.W.fnOf "_law_pen" "_law_pen" (defArgs s__law_pen) (defBody s__law_pen) (defScope s__law_pen) .none kV6 dc6 pm6 an6 cd6 ct6), sl6⟩) (c6 : PySem.W.codeIn K cd6 "_law_pen" = true) (k6 : PySem.W.keepIn K (.ref f6) = true)
    (a7 : PySem.W.nsIn K mainGlobals "_law_take" = some (some (.ref f7))) (l7 : K.lookup f7 = some ⟨oc7, od7, .func (PySem.W.fnOf "_law_take" "_law_take" (defArgs s__law_take) (defBody s__law_take) (defScope s__law_take) .none kV7 dc7 pm7 an7 cd7 ct7), sl7⟩) (c7 : PySem.W.codeIn K cd7 "_law_take" = true) (k7 : PySem.W.keepIn K (.ref f7) = true)
    (a8 : PySem.W.nsIn K mainGlobals "_law_machine" = some (some (.ref f8))) (l8 : K.lookup f8 = some ⟨oc8, od8, .func (PySem.W.fnOf "_law_machine" "_law_machine" (defArgs s__law_machine) (defBody s__law_machine) (defScope s__law_machine) .none kV8 dc8 pm8 an8 cd8 ct8), sl8⟩) (c8 : PySem.W.codeIn K cd8 "_law_machine" = true) (k8 : PySem.W.keepIn K (.ref f8) = true)
    (a9 : PySem.W.nsIn K mainGlobals "_law_cell" = some (some (.ref f9))) (l9 : K.lookup f9 = some ⟨oc9, od9, .func (PySem.W.fnOf "_law_cell" "_law_cell" (defArgs s__law_cell) (defBody s__law_cell) (defScope s__law_cell) .none kV9 dc9 pm9 an9 cd9 ct9), sl9⟩) (c9 : PySem.W.codeIn K cd9 "_law_cell" = true) (k9 : PySem.W.keepIn K (.ref f9) = true)
    (a10 : PySem.W.nsIn K mainGlobals "_law_order" = some (some (.ref f10))) (l10 : K.lookup f10 = some ⟨oc10, od10, .func (PySem.W.fnOf "_law_order" "_law_order" (defArgs s__law_order) (defBody s__law_order) (defScope s__law_order) .none kV10 dc10 pm10 an10 cd10 ct10), sl10⟩) (c10 : PySem.W.codeIn K cd10 "_law_order" = true) (k10 : PySem.W.keepIn K (.ref f10) = true)
    (a11 : PySem.W.nsIn K mainGlobals "_law_other" = some (some (.ref f11))) (l11 : K.lookup f11 = some ⟨oc11, od11, .func (PySem.W.fnOf "_law_other" "_law_other" (defArgs s__law_other) (defBody s__law_other) (defScope s__law_other) .none kV11 dc11 pm11 an11 cd11 ct11), sl11⟩) (c11 : PySem.W.codeIn K cd11 "_law_other" = true) (k11 : PySem.W.keepIn K (.ref f11) = true)
    (a12 : PySem.W.nsIn K mainGlobals "_law_named" = some (some (.ref f12))) (l12 : K.lookup f12 = some ⟨oc12, od12, .func (PySem.W.fnOf "_law_named" "_law_named" (defArgs s__law_named) (defBody s__law_named) (defScope s__law_named) .none kV12 dc12 pm12 an12 cd12 ct12), sl12⟩) (c12 : PySem.W.codeIn K cd12 "_law_named" = true) (k12 : PySem.W.keepIn K (.ref f12) = true)
    (a13 : PySem.W.nsIn K mainGlobals "_law_spoiled" = some (some (.ref f13))) (l13 : K.lookup f13 = some ⟨oc13, od13, .func (PySem.W.fnOf "_law_spoiled" "_law_spoiled" (defArgs s__law_spoiled) (defBody s__law_spoiled) (defScope s__law_spoiled) .none kV13 dc13 pm13 an13 cd13 ct13), sl13⟩) (c13 : PySem.W.codeIn K cd13 "_law_spoiled" = true) (k13 : PySem.W.keepIn K (.ref f13) = true)
    (a16 : PySem.W.nsIn K mainGlobals "_law_is_pair" = some (some (.ref f16))) (l16 : K.lookup f16 = some ⟨oc16, od16, .func (PySem.W.fnOf "_law_is_pair" "_law_is_pair" (defArgs s__law_is_pair) (defBody s__law_is_pair) (defScope s__law_is_pair) .none kV16 dc16 pm16 an16 cd16 ct16), sl16⟩) (c16 : PySem.W.codeIn K cd16 "_law_is_pair" = true) (k16 : PySem.W.keepIn K (.ref f16) = true)
    (a17 : PySem.W.nsIn K mainGlobals "_law_fault" = some (some (.ref f17))) (l17 : K.lookup f17 = some ⟨oc17, od17, .func (PySem.W.fnOf "_law_fault" "_law_fault" (defArgs s__law_fault) (defBody s__law_fault) (defScope s__law_fault) .none kV17 dc17 pm17 an17 cd17 ct17), sl17⟩) (c17 : PySem.W.codeIn K cd17 "_law_fault" = true) (k17 : PySem.W.keepIn K (.ref f17) = true)
    (a18 : PySem.W.nsIn K mainGlobals "_law_bent_pair" = some (some (.ref f18))) (l18 : K.lookup f18 = some ⟨oc18, od18, .func (PySem.W.fnOf "_law_bent_pair" "_law_bent_pair" (defArgs s__law_bent_pair) (defBody s__law_bent_pair) (defScope s__law_bent_pair) .none kV18 dc18 pm18 an18 cd18 ct18), sl18⟩) (c18 : PySem.W.codeIn K cd18 "_law_bent_pair" = true) (k18 : PySem.W.keepIn K (.ref f18) = true)
    (a19 : PySem.W.nsIn K mainGlobals "_law_bent" = some (some (.ref f19))) (l19 : K.lookup f19 = some ⟨oc19, od19, .func (PySem.W.fnOf "_law_bent" "_law_bent" (defArgs s__law_bent) (defBody s__law_bent) (defScope s__law_bent) .none kV19 dc19 pm19 an19 cd19 ct19), sl19⟩) (c19 : PySem.W.codeIn K cd19 "_law_bent" = true) (k19 : PySem.W.keepIn K (.ref f19) = true)
    (a20 : PySem.W.nsIn K mainGlobals "_law_led" = some (some (.ref f20))) (l20 : K.lookup f20 = some ⟨oc20, od20, .func (PySem.W.fnOf "_law_led" "_law_led" (defArgs s__law_led) (defBody s__law_led) (defScope s__law_led) .none kV20 dc20 pm20 an20 cd20 ct20), sl20⟩) (c20 : PySem.W.codeIn K cd20 "_law_led" = true) (k20 : PySem.W.keepIn K (.ref f20) = true)
    (a21 : PySem.W.nsIn K mainGlobals "_law_right" = some (some (.ref f21))) (l21 : K.lookup f21 = some ⟨oc21, od21, .func (PySem.W.fnOf "_law_right" "_law_right" (defArgs s__law_right) (defBody s__law_right) (defScope s__law_right) .none kV21 dc21 pm21 an21 cd21 ct21), sl21⟩) (c21 : PySem.W.codeIn K cd21 "_law_right" = true) (k21 : PySem.W.keepIn K (.ref f21) = true)
    (a22 : PySem.W.nsIn K mainGlobals "_law_changed_right" = some (some (.ref f22))) (l22 : K.lookup f22 = some ⟨oc22, od22, .func (PySem.W.fnOf "_law_changed_right" "_law_changed_right" (defArgs s__law_changed_right) (defBody s__law_changed_right) (defScope s__law_changed_right) .none kV22 dc22 pm22 an22 cd22 ct22), sl22⟩) (c22 : PySem.W.codeIn K cd22 "_law_changed_right" = true) (k22 : PySem.W.keepIn K (.ref f22) = true)
    (a23 : PySem.W.nsIn K mainGlobals "law" = some (some (.ref f23))) (l23 : K.lookup f23 = some ⟨oc23, od23, .func (PySem.W.fnOf "law" "law" (defArgs s_law) (defBody s_law) (defScope s_law) .none kV23 dc23 pm23 an23 cd23 ct23), sl23⟩) (c23 : PySem.W.codeIn K cd23 "law" = true) (k23 : PySem.W.keepIn K (.ref f23) = true)
    (z_ValueError : PySem.W.nsIn K mainGlobals "ValueError" = some none)
    (z_enumerate : PySem.W.nsIn K mainGlobals "enumerate" = some none)
    (z_range : PySem.W.nsIn K mainGlobals "range" = some none)
    (z_list : PySem.W.nsIn K mainGlobals "list" = some none)
    (z_len : PySem.W.nsIn K mainGlobals "len" = some none)
    (z_zip : PySem.W.nsIn K mainGlobals "zip" = some none)
    (z_dict : PySem.W.nsIn K mainGlobals "dict" = some none)
    (z_repr : PySem.W.nsIn K mainGlobals "repr" = some none)
    (z_isinstance : PySem.W.nsIn K mainGlobals "isinstance" = some none)
    (z_int : PySem.W.nsIn K mainGlobals "int" = some none)
    (z_tuple : PySem.W.nsIn K mainGlobals "tuple" = some none)
    (z_sorted : PySem.W.nsIn K mainGlobals "sorted" = some none)
    (z_bool : PySem.W.nsIn K mainGlobals "bool" = some none)
    (z_all : PySem.W.nsIn K mainGlobals "all" = some none)
    (z_abs : PySem.W.nsIn K mainGlobals "abs" = some none)
    : ∃ fd : FuncData, (∀ (s : Shared) (v : Value), BindsTo s fd ⟨[v], []⟩ [("_law_script", v)]) ∧ ∀ base : Heap, K.In base → base.Ns mainGlobals mg → FnG l.prog w K mg base 5 fa fd ["_law_script"] S_law := by
  have T : Tx mg := ⟨PySem.W.mg_none_of X G z_ValueError, PySem.W.mg_none_of X G z_enumerate, PySem.W.mg_none_of X G z_range, PySem.W.mg_none_of X G z_list, PySem.W.mg_none_of X G z_len, PySem.W.mg_none_of X G z_zip, PySem.W.mg_none_of X G z_dict, PySem.W.mg_none_of X G z_repr, PySem.W.mg_none_of X G z_isinstance, PySem.W.mg_none_of X G z_int, PySem.W.mg_none_of X G z_tuple, PySem.W.mg_none_of X G z_sorted, PySem.W.mg_none_of X G z_bool, PySem.W.mg_none_of X G z_all, PySem.W.mg_none_of X G z_abs⟩
  have B0 : Src K mg "is_whole" s_is_whole ["thing"] := src_mk (PySem.W.mg_of X G a0) l0 c0 k0 fun _ _ _ _ _ _ us hl => match us, hl with | [_], _ => rfl
  have B1 : Src K mg "need_alike" s_need_alike ["machine", "other"] := src_mk (PySem.W.mg_of X G a1) l1 c1 k1 fun _ _ _ _ _ _ us hl => match us, hl with | [_, _], _ => rfl
  have B2 : Src K mg "is_pair" s_is_pair ["machine", "other", "thing"] := src_mk (PySem.W.mg_of X G a2) l2 c2 k2 fun _ _ _ _ _ _ us hl => match us, hl with | [_, _, _], _ => rfl
  have B3 : Src K mg "cells_word" s_cells_word ["cell", "beside"] := src_mk (PySem.W.mg_of X G a3) l3 c3 k3 fun _ _ _ _ _ _ us hl => match us, hl with | [_, _], _ => rfl
  have B4 : Src K mg "pair_word" s_pair_word ["machine", "other", "there", "here", "ask"] := src_mk (PySem.W.mg_of X G a4) l4 c4 k4 fun _ _ _ _ _ _ us hl => match us, hl with | [_, _, _, _, _], _ => rfl
  have B5 : Src K mg "pairs_fault" s_pairs_fault ["machine", "other", "thing"] := src_mk (PySem.W.mg_of X G a5) l5 c5 k5 fun _ _ _ _ _ _ us hl => match us, hl with | [_, _, _], _ => rfl
  have B6 : Src K mg "_law_pen" s__law_pen ["_law_script"] := src_mk (PySem.W.mg_of X G a6) l6 c6 k6 fun _ _ _ _ _ _ us hl => match us, hl with | [_], _ => rfl
  have B7 : Src K mg "_law_take" s__law_take ["_law_pen_here", "_law_many"] := src_mk (PySem.W.mg_of X G a7) l7 c7 k7 fun _ _ _ _ _ _ us hl => match us, hl with | [_, _], _ => rfl
  have B8 : Src K mg "_law_machine" s__law_machine ["_law_pen_here", "_law_asks", "_law_many"] := src_mk (PySem.W.mg_of X G a8) l8 c8 k8 fun _ _ _ _ _ _ us hl => match us, hl with | [_, _, _], _ => rfl
  have B9 : Src K mg "_law_cell" s__law_cell ["_law_pen_here", "_law_share", "_law_wide", "_law_shift", "_law_many"] := src_mk (PySem.W.mg_of X G a9) l9 c9 k9 fun _ _ _ _ _ _ us hl => match us, hl with | [_, _, _, _, _], _ => rfl
  have B10 : Src K mg "_law_order" s__law_order ["_law_pen_here", "_law_many"] := src_mk (PySem.W.mg_of X G a10) l10 c10 k10 fun _ _ _ _ _ _ us hl => match us, hl with | [_, _], _ => rfl
  have B11 : Src K mg "_law_other" s__law_other ["_law_pen_here", "_law_machine_here"] := src_mk (PySem.W.mg_of X G a11) l11 c11 k11 fun _ _ _ _ _ _ us hl => match us, hl with | [_, _], _ => rfl
  have B12 : Src K mg "_law_named" s__law_named ["_law_pen_here", "_law_machine_here"] := src_mk (PySem.W.mg_of X G a12) l12 c12 k12 fun _ _ _ _ _ _ us hl => match us, hl with | [_, _], _ => rfl
  have B13 : Src K mg "_law_spoiled" s__law_spoiled ["_law_pen_here", "_law_machine_here"] := src_mk (PySem.W.mg_of X G a13) l13 c13 k13 fun _ _ _ _ _ _ us hl => match us, hl with | [_, _], _ => rfl
  have B16 : Src K mg "_law_is_pair" s__law_is_pair ["_law_thing", "_law_many", "_law_more"] := src_mk (PySem.W.mg_of X G a16) l16 c16 k16 fun _ _ _ _ _ _ us hl => match us, hl with | [_, _, _], _ => rfl
  have B17 : Src K mg "_law_fault" s__law_fault ["_law_machine_here", "_law_other_here", "_law_thing"] := src_mk (PySem.W.mg_of X G a17) l17 c17 k17 fun _ _ _ _ _ _ us hl => match us, hl with | [_, _, _], _ => rfl
  have B18 : Src K mg "_law_bent_pair" s__law_bent_pair ["_law_pen_here", "_law_pair", "_law_many"] := src_mk (PySem.W.mg_of X G a18) l18 c18 k18 fun _ _ _ _ _ _ us hl => match us, hl with | [_, _, _], _ => rfl
  have B19 : Src K mg "_law_bent" s__law_bent ["_law_pen_here", "_law_pairs", "_law_machine_here", "_law_other_here"] := src_mk (PySem.W.mg_of X G a19) l19 c19 k19 fun _ _ _ _ _ _ us hl => match us, hl with | [_, _, _, _], _ => rfl
  have B20 : Src K mg "_law_led" s__law_led ["_law_machine_here", "_law_other_here"] := src_mk (PySem.W.mg_of X G a20) l20 c20 k20 fun _ _ _ _ _ _ us hl => match us, hl with | [_, _], _ => rfl
  have B21 : Src K mg "_law_right" s__law_right ["_law_machine_here", "_law_other_here", "_law_thing"] := src_mk (PySem.W.mg_of X G a21) l21 c21 k21 fun _ _ _ _ _ _ us hl => match us, hl with | [_, _, _], _ => rfl
  have B22 : Src K mg "_law_changed_right" s__law_changed_right ["_law_machine_here", "_law_other_here", "_law_pairs"] := src_mk (PySem.W.mg_of X G a22) l22 c22 k22 fun _ _ _ _ _ _ us hl => match us, hl with | [_, _, _], _ => rfl
  have B23 : Src K mg "law" s_law ["_law_script"] := src_mk (PySem.W.mg_of X G a23) l23 c23 k23 fun _ _ _ _ _ _ us hl => match us, hl with | [_], _ => rfl
  have e := hfa.symm.trans (PySem.W.mg_of X G a23)
  cases e
  refine ⟨PySem.W.fnOf "law" "law" (defArgs s_law) (defBody s_law) (defScope s_law) .none kV23 dc23 pm23 an23 cd23 ct23, fun s v => .of_eq rfl, fun base _ _ => ?_⟩
  have FL := fun_mk (st := s_law) l23 c23 k23
  exact ok_all T B0 B1 B2 B3 B4 B5 B6 B7 B8 B9 B10 B11 B12 B13 B16 B17 B18 B19 B20 B21 B22 FL
end L16
open PySem PySem.W PyProof.Rows
set_option maxRecDepth 100000 in
set_option maxHeartbeats 0 in
theorem PySem.Challenge.cw_opencells_k16_faults_of_pairs_holds : PySem.Challenge.rw_opencells_k16_faults_of_pairs.Holds := by
  w_on; o_law; k_head; (case hw => w_witness2)
  k_fill
  refine Oc.walk_ofG (l := PySem.Challenge.rw_opencells_k16_faults_of_pairs) (k := 5) (x := "_law_script") rfl rfl ⟨rfl, by decide, by decide⟩ (fun w h Y => PySem.W.kIn_of Y) ?F
  case F =>
    intro w mg fa h KX G hmg
    refine' L16.all_mk KX G hmg ?a0 ?l0 ?c0 ?k0 ?a1 ?l1 ?c1 ?k1 ?a2 ?l2 ?c2 ?k2 ?a3 ?l3 ?c3 ?k3 ?a4 ?l4 ?c4 ?k4 ?a5 ?l5 ?c5 ?k5 ?a6 ?l6 ?c6 ?k6 ?a7 ?l7 ?c7 ?k7 ?a8 ?l8 ?c8 ?k8 ?a9 ?l9 ?c9 ?k9 ?a10 ?l10 ?c10 ?k10 ?a11 ?l11 ?c11 ?k11 ?a12 ?l12 ?c12 ?k12 ?a13 ?l13 ?c13 ?k13 ?a16 ?l16 ?c16 ?k16 ?a17 ?l17 ?c17 ?k17 ?a18 ?l18 ?c18 ?k18 ?a19 ?l19 ?c19 ?k19 ?a20 ?l20 ?c20 ?k20 ?a21 ?l21 ?c21 ?k21 ?a22 ?l22 ?c22 ?k22 ?a23 ?l23 ?c23 ?k23 ?z_ValueError ?z_enumerate ?z_range ?z_list ?z_len ?z_zip ?z_dict ?z_repr ?z_isinstance ?z_int ?z_tuple ?z_sorted ?z_bool ?z_all ?z_abs
    (case a0 => k_is); (case l0 => k_is); (case c0 => k_is); (case k0 => k_is); (case a1 => k_is); (case l1 => k_is); (case c1 => k_is); (case k1 => k_is); (case a2 => k_is); (case l2 => k_is); (case c2 => k_is); (case k2 => k_is); (case a3 => k_is); (case l3 => k_is); (case c3 => k_is); (case k3 => k_is); (case a4 => k_is); (case l4 => k_is); (case c4 => k_is); (case k4 => k_is); (case a5 => k_is); (case l5 => k_is); (case c5 => k_is); (case k5 => k_is); (case a6 => k_is); (case l6 => k_is); (case c6 => k_is); (case k6 => k_is); (case a7 => k_is); (case l7 => k_is); (case c7 => k_is); (case k7 => k_is); (case a8 => k_is); (case l8 => k_is); (case c8 => k_is); (case k8 => k_is); (case a9 => k_is); (case l9 => k_is); (case c9 => k_is); (case k9 => k_is); (case a10 => k_is); (case l10 => k_is); (case c10 => k_is); (case k10 => k_is); (case a11 => k_is); (case l11 => k_is); (case c11 => k_is); (case k11 => k_is); (case a12 => k_is); (case l12 => k_is); (case c12 => k_is); (case k12 => k_is); (case a13 => k_is); (case l13 => k_is); (case c13 => k_is); (case k13 => k_is); (case a16 => k_is); (case l16 => k_is); (case c16 => k_is); (case k16 => k_is); (case a17 => k_is); (case l17 => k_is); (case c17 => k_is); (case k17 => k_is); (case a18 => k_is); (case l18 => k_is); (case c18 => k_is); (case k18 => k_is); (case a19 => k_is); (case l19 => k_is); (case c19 => k_is); (case k19 => k_is); (case a20 => k_is); (case l20 => k_is); (case c20 => k_is); (case k20 => k_is); (case a21 => k_is); (case l21 => k_is); (case c21 => k_is); (case k21 => k_is); (case a22 => k_is); (case l22 => k_is); (case c22 => k_is); (case k22 => k_is); (case a23 => k_is); (case l23 => k_is); (case c23 => k_is); (case k23 => k_is); (case z_ValueError => k_is); (case z_enumerate => k_is); (case z_range => k_is); (case z_list => k_is); (case z_len => k_is); (case z_zip => k_is); (case z_dict => k_is); (case z_repr => k_is); (case z_isinstance => k_is); (case z_int => k_is); (case z_tuple => k_is); (case z_sorted => k_is); (case z_bool => k_is); (case z_all => k_is); (case z_abs => k_is)
