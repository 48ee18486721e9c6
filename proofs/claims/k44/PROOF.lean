import PyProof.Rows.All
import Wide.All
import OpenK.AllK
import Wide.FinOn
import HandS.ForMost
import HandS.Evl
import KE.GoesNew
import HandS.IsInst
import HandS.TupAny
import HandS.Wide
import PySem.Challenge.RW_opencells_k44_pieces_and_joins
set_option Elab.async false
set_option autoImplicit false
set_option linter.all false
set_option maxRecDepth 100000
set_option maxHeartbeats 4000000
/-! Own layer, part 1: data as values (D), mutable cells (Mu), and a calculus of weakest preconditions over HandS. -/
namespace Oc
open PySem PySem.Spec L2
open Evl (Ex)

inductive D where
  | non | bl (b : Bool) | int (i : Int) | str (x : Str) | tup (l : List D) | lst (l : List D) | scr (l : List D) | ptr (a : Addr) | ty (n : String)
/-- the content of a mutable cell -/
inductive MO where
  | lst (l : List D) | dk (l : List (Key × D)) | dt (l : List (List Key × D))
abbrev Rho := List (Option D)
abbrev Mu := List (Addr × MO)

mutual
inductive Rep (K : PySem.W.Frag) (F : Hp) : V → D → Prop
  | non : Rep K F .non .non
  | bl (b : Bool) : Rep K F (.bl b) (.bl b)
  | int (i : Int) : Rep K F (.int i) (.int i)
  | str (x : Str) : Rep K F (.str x) (.str x)
  | tup {a : Addr} {xs : List V} {ds : List D} : SqT K F a xs → Reps K F xs ds → Rep K F (.ref a) (.tup ds)
  | lst {a : Addr} {xs : List V} {ds : List D} : F a = some (.lst xs) → Reps K F xs ds → Rep K F (.ref a) (.lst ds)
  | scr {a : Addr} {xs : List V} {ds : List D} : SqL K F a xs → Reps K F xs ds → Rep K F (.ref a) (.scr ds)
  | ty (n : String) : Rep K F (.ty n) (.ty n)
  | ptr (a : Addr) : Rep K F (.ref a) (.ptr a)
inductive Reps (K : PySem.W.Frag) (F : Hp) : List V → List D → Prop
  | nil : Reps K F [] []
  | cons {v : V} {vs : List V} {d : D} {ds : List D} : Rep K F v d → Reps K F vs ds → Reps K F (v :: vs) (d :: ds)
end
section
variable {K : PySem.W.Frag} {F F' H H' : Hp}
mutual
theorem Rep.mono (e : Ex F F') : ∀ {v : V} {d : D}, Rep K F v d → Rep K F' v d
  | _, _, .non => .non
  | _, _, .bl b => .bl b
  | _, _, .int i => .int i
  | _, _, .str x => .str x
  | _, _, .tup h r => .tup (Evl.ex_t e h) (Reps.mono e r)
  | _, _, .lst h r => .lst (e _ _ h) (Reps.mono e r)
  | _, _, .scr h r => .scr (Evl.ex_l e h) (Reps.mono e r)
  | _, _, .ty n => .ty n
  | _, _, .ptr a => .ptr a
theorem Reps.mono (e : Ex F F') : ∀ {v : List V} {d : List D}, Reps K F v d → Reps K F' v d
  | _, _, .nil => .nil
  | _, _, .cons h r => .cons (Rep.mono e h) (Reps.mono e r)
end
theorem Reps.length : ∀ {v : List V} {d : List D}, Reps K F v d → v.length = d.length
  | _, _, .nil => rfl
  | _, _, .cons _ r => congrArg (· + 1) (Reps.length r)
theorem Reps.get : ∀ {v : List V} {d : List D} {i : Nat} {x : D}, Reps K F v d → d[i]? = some x → ∃ y, v[i]? = some y ∧ Rep K F y x
  | _, _, _, _, .nil, h => by simp at h
  | _, _, 0, _, .cons h _, e => by simp at e; subst e; exact ⟨_, rfl, h⟩
  | _, _, i + 1, x, .cons _ r, e => by
    obtain ⟨y, h1, h2⟩ := Reps.get (i := i) (x := x) r (by simpa using e)
    exact ⟨y, by simpa using h1, h2⟩
theorem Reps.getV : ∀ {v : List V} {d : List D} {i : Nat} {y : V}, Reps K F v d → v[i]? = some y → ∃ x, d[i]? = some x ∧ Rep K F y x
  | _, _, _, _, .nil, h => by simp at h
  | _, _, 0, _, .cons h _, e => by simp at e; subst e; exact ⟨_, rfl, h⟩
  | _, _, i + 1, x, .cons _ r, e => by
    obtain ⟨y, h1, h2⟩ := Reps.getV (i := i) (y := x) r (by simpa using e)
    exact ⟨y, by simpa using h1, h2⟩
theorem Reps.append : ∀ {v w : List V} {d e : List D}, Reps K F v d → Reps K F w e → Reps K F (v ++ w) (d ++ e)
  | _, _, _, _, .nil, s => s
  | _, _, _, _, .cons r t, s => .cons r (Reps.append t s)
theorem Reps.one {v : V} {d : D} (h : Rep K F v d) : Reps K F [v] [d] := .cons h .nil
theorem Reps.take : ∀ {v : List V} {d : List D} (n : Nat), Reps K F v d → Reps K F (v.take n) (d.take n)
  | _, _, 0, _ => .nil
  | _, _, _ + 1, .nil => .nil
  | _, _, n + 1, .cons r t => .cons r (Reps.take n t)
theorem Reps.drop : ∀ {v : List V} {d : List D} (n : Nat), Reps K F v d → Reps K F (v.drop n) (d.drop n)
  | _, _, 0, r => r
  | _, _, _ + 1, .nil => .nil
  | _, _, n + 1, .cons _ t => Reps.drop n t
theorem Reps.set {x : V} {u : D} (r : Rep K F x u) : ∀ {xs : List V} {us : List D} (i : Nat), Reps K F xs us → Reps K F (xs.set i x) (us.set i u)
  | _, _, _, .nil => .nil
  | _, _, 0, .cons _ t => .cons r t
  | _, _, i + 1, .cons q t => .cons q (Reps.set r i t)
theorem Reps.reverse {v : List V} {d : List D} (h : Reps K F v d) : Reps K F v.reverse d.reverse := by
  induction d generalizing v with
  | nil => cases h; exact .nil
  | cons a l ih => cases h with | cons h r => rw [List.reverse_cons, List.reverse_cons]; exact (ih r).append (.one h)
theorem reps_map {α : Type} {f : α → V} {g : α → D} (h : ∀ a, Rep K F (f a) (g a)) : ∀ l : List α, Reps K F (l.map f) (l.map g)
  | [] => .nil
  | a :: l => .cons (h a) (reps_map h l)
/-- what a list of known kind is -/
theorem reps_ints : ∀ {vs : List V} {ns : List Int}, Reps K F vs (ns.map D.int) → vs = ns.map V.int
  | _, [], .nil => rfl
  | _, n :: ns, .cons h r => by
    cases h
    rw [List.map_cons, ← reps_ints r]
theorem reps_strs : ∀ {vs : List V} {ns : List Str}, Reps K F vs (ns.map D.str) → vs = ns.map V.str
  | _, [], .nil => rfl
  | _, n :: ns, .cons h r => by
    cases h
    rw [List.map_cons, ← reps_strs r]
theorem reps_bools : ∀ {vs : List V} {ns : List Bool}, Reps K F vs (ns.map D.bl) → vs = ns.map V.bl
  | _, [], .nil => rfl
  | _, n :: ns, .cons h r => by
    cases h
    rw [List.map_cons, ← reps_bools r]

def RepK {κ : Type} (K : PySem.W.Frag) (F : Hp) : List (κ × D) → List (κ × V) → Prop := Paired fun p q => p.1 = q.1 ∧ Rep K F q.2 p.2
theorem RepK.mono {κ : Type} (e : Ex F F') {ds : List (κ × D)} {kvs : List (κ × V)} (h : RepK K F ds kvs) : RepK K F' ds kvs := Paired.mapP h fun _ _ z => ⟨z.1, z.2.mono e⟩
inductive RepO (K : PySem.W.Frag) (F : Hp) : MO → HO → Prop
  | lst {ds : List D} {xs : List V} : Reps K F xs ds → RepO K F (.lst ds) (.lst xs)
  | dk {ds : List (Key × D)} {kvs : List (Key × V)} : RepK K F ds kvs → RepO K F (.dk ds) (.dK kvs)
  | dt {ds : List (List Key × D)} {kvs : List (List Key × V)} : RepK K F ds kvs → RepO K F (.dt ds) (.dT kvs)
theorem RepO.mono (e : Ex F F') {o : MO} {u : HO} (h : RepO K F o u) : RepO K F' o u := by
  cases h with
  | lst r => exact .lst (r.mono e)
  | dk r => exact .dk (r.mono e)
  | dt r => exact .dt (r.mono e)

/-- the heap H: F stands still, the cells of μ may change -/
structure Hs (K : PySem.W.Frag) (F : Hp) (μ : Mu) (H : Hp) : Prop where
  ex : Ex F H
  nd : (μ.map (·.1)).Nodup
  mu : ∀ a o, (a, o) ∈ μ → F a = none ∧ ∃ u, H a = some u ∧ RepO K F o u
/-- the slots -/
structure Sl (K : PySem.W.Frag) (F : Hp) (ρ : Rho) (σ : St) : Prop where
  len : ρ.length = σ.length
  at_ : ∀ (i : Nat) (d : D), ρ[i]? = some (some d) → ∃ v, σ[i]? = some (some v) ∧ Rep K F v d
variable {μ : Mu} {ρ : Rho} {σ : St}
theorem Sl.mono (e : Ex F F') (s : Sl K F ρ σ) : Sl K F' ρ σ := ⟨s.len, fun i d h => by
  obtain ⟨v, h1, h2⟩ := s.at_ i d h
  exact ⟨v, h1, h2.mono e⟩⟩
theorem Sl.set {v : V} {d : D} (s : Sl K F ρ σ) (i : Nat) (r : Rep K F v d) : Sl K F (ρ.set i (some d)) (σ.set i (some v)) := ⟨by rw [List.length_set, List.length_set]; exact s.len, fun j e h => by
  by_cases hj : i = j
  · subst hj
    by_cases hl : i < ρ.length
    · rw [List.getElem?_set_self hl] at h
      rw [List.getElem?_set_self (by rw [← s.len]; exact hl)]
      cases h
      exact ⟨v, rfl, r⟩
    · rw [List.getElem?_eq_none (by rw [List.length_set]; omega)] at h
      cases h
  · rw [List.getElem?_set_ne hj] at h ⊢
    exact s.at_ j e h⟩
theorem Sl.wipe (s : Sl K F ρ σ) (i : Nat) : Sl K F (ρ.set i none) (σ.set i none) := ⟨by rw [List.length_set, List.length_set]; exact s.len, fun j e h => by
  by_cases hj : i = j
  · subst hj
    by_cases hl : i < ρ.length
    · rw [List.getElem?_set_self hl] at h
      cases h
    · rw [List.getElem?_eq_none (by rw [List.length_set]; omega)] at h
      cases h
  · rw [List.getElem?_set_ne hj] at h ⊢
    exact s.at_ j e h⟩
theorem Sl.forget (s : Sl K F ρ σ) (i : Nat) : Sl K F (ρ.set i none) σ := ⟨by rw [List.length_set]; exact s.len, fun j e h => by
  by_cases hj : i = j
  · subst hj
    by_cases hl : i < ρ.length
    · rw [List.getElem?_set_self hl] at h
      cases h
    · rw [List.getElem?_eq_none (by rw [List.length_set]; omega)] at h
      cases h
  · rw [List.getElem?_set_ne hj] at h
    exact s.at_ j e h⟩
theorem mem_of_get {α : Type} {l : List α} {i : Nat} {x : α} (h : l[i]? = some x) : x ∈ l := List.mem_of_getElem? h
theorem Hs.at_ (h : Hs K F μ H) {i : Nat} {p : Addr} {o : MO} (e : μ[i]? = some (p, o)) : F p = none ∧ ∃ u, H p = some u ∧ RepO K F o u := h.mu p o (mem_of_get e)
theorem Hs.lst (h : Hs K F μ H) {i : Nat} {p : Addr} {ds : List D} (e : μ[i]? = some (p, .lst ds)) : ∃ xs, H p = some (.lst xs) ∧ Reps K F xs ds := by
  obtain ⟨_, u, h1, h2⟩ := h.at_ e
  cases h2 with
  | lst r => exact ⟨_, h1, r⟩
theorem Hs.dk (h : Hs K F μ H) {i : Nat} {p : Addr} {ds : List (Key × D)} (e : μ[i]? = some (p, .dk ds)) : ∃ kvs, H p = some (.dK kvs) ∧ RepK K F ds kvs := by
  obtain ⟨_, u, h1, h2⟩ := h.at_ e
  cases h2 with
  | dk r => exact ⟨_, h1, r⟩
theorem Hs.dt (h : Hs K F μ H) {i : Nat} {p : Addr} {ds : List (List Key × D)} (e : μ[i]? = some (p, .dt ds)) : ∃ kvs, H p = some (.dT kvs) ∧ RepK K F ds kvs := by
  obtain ⟨_, u, h1, h2⟩ := h.at_ e
  cases h2 with
  | dt r => exact ⟨_, h1, r⟩
/-- the still part grows where H has it -/
theorem Hs.still (h : Hs K F μ H) {p : Addr} {u : HO} (hp : F p = none) (hu : H p = some u) (hm : ∀ o, (p, o) ∉ μ) : Hs K (upd F p u) μ H ∧ Ex F (upd F p u) := by
  have e : Ex F (upd F p u) := Ex.new hp
  refine ⟨⟨fun a o q => ?_, h.nd, fun a o q => ?_⟩, e⟩
  · by_cases ha : a = p
    · subst ha; rw [upd_same] at q; cases q; exact hu
    · rw [upd_ne ha] at q; exact h.ex a o q
  · obtain ⟨h1, w, h2, h3⟩ := h.mu a o q
    have ha : a ≠ p := fun z => by subst z; exact hm o q
    exact ⟨by rw [upd_ne ha]; exact h1, w, h2, h3.mono e⟩
theorem Hs.fresh (h : Hs K F μ H) {p : Addr} (hp : H p = none) : F p = none ∧ ∀ o, (p, o) ∉ μ := ⟨Evl.fresh_back h.ex hp, fun o q => by
  obtain ⟨_, w, h2, _⟩ := h.mu p o q
  rw [hp] at h2; cases h2⟩
/-- a new object that stands still -/
theorem Hs.laid (h : Hs K F μ H) {p : Addr} {u : HO} (hp : H p = none) : Hs K (upd F p u) μ (upd H p u) ∧ Ex F (upd F p u) := by
  obtain ⟨h1, h2⟩ := h.fresh hp
  have e : Ex F (upd F p u) := Ex.new h1
  refine ⟨⟨fun a o q => ?_, h.nd, fun a o q => ?_⟩, e⟩
  · by_cases ha : a = p
    · subst ha; rw [upd_same] at q ⊢; exact q
    · rw [upd_ne ha] at q ⊢; exact h.ex a o q
  · obtain ⟨h3, w, h4, h5⟩ := h.mu a o q
    have ha : a ≠ p := fun z => by subst z; exact h2 o q
    exact ⟨by rw [upd_ne ha]; exact h3, w, by rw [upd_ne ha]; exact h4, h5.mono e⟩
/-- a new cell -/
theorem Hs.cell (h : Hs K F μ H) {p : Addr} {u : HO} {o : MO} (hp : H p = none) (r : RepO K F o u) : Hs K F ((p, o) :: μ) (upd H p u) := by
  obtain ⟨h1, h2⟩ := h.fresh hp
  refine ⟨h.ex.trans (Ex.new hp), ?_, fun a q z => ?_⟩
  · rw [List.map_cons, List.nodup_cons]
    refine ⟨fun z => ?_, h.nd⟩
    obtain ⟨⟨a, q⟩, hm, e⟩ := List.mem_map.mp z
    subst e
    exact h2 q hm
  · rcases List.mem_cons.mp z with e | e
    · cases e
      exact ⟨h1, u, upd_same, r⟩
    · obtain ⟨h3, w, h4, h5⟩ := h.mu a q e
      have ha : a ≠ p := fun z => by subst z; exact h2 q e
      exact ⟨h3, w, by rw [upd_ne ha]; exact h4, h5⟩
theorem nodup_get {μ : Mu} (nd : (μ.map (·.1)).Nodup) {i j : Nat} {p : Addr} {o u : MO} (h1 : μ[i]? = some (p, o)) (h2 : μ[j]? = some (p, u)) : i = j := by
  have e1 : (μ.map (·.1))[i]? = some p := by rw [List.getElem?_map, h1]; rfl
  have e2 : (μ.map (·.1))[j]? = some p := by rw [List.getElem?_map, h2]; rfl
  obtain ⟨l1, g1⟩ := List.getElem?_eq_some_iff.mp e1
  obtain ⟨l2, g2⟩ := List.getElem?_eq_some_iff.mp e2
  exact (List.getElem_inj nd).mp (g1.trans g2.symm)
theorem map_set_fst {μ : Mu} {i : Nat} {p : Addr} {o u : MO} (h : μ[i]? = some (p, o)) : ((μ.set i (p, u)).map (·.1)) = μ.map (·.1) := by
  rw [List.map_set]
  apply List.ext_getElem?
  intro j
  by_cases hj : i = j
  · subst hj
    have hl : i < (μ.map (·.1)).length := by rw [List.length_map]; exact (List.getElem?_eq_some_iff.mp h).1
    rw [List.getElem?_set_self hl, List.getElem?_map, h]
    rfl
  · rw [List.getElem?_set_ne hj]
/-- a cell is written -/
theorem Hs.write (h : Hs K F μ H) {i : Nat} {p : Addr} {u : HO} {o o' : MO} (e : μ[i]? = some (p, o)) (r : RepO K F o' u) : Hs K F (μ.set i (p, o')) (upd H p u) := by
  obtain ⟨h1, _, h2, _⟩ := h.at_ e
  have hl : i < μ.length := (List.getElem?_eq_some_iff.mp e).1
  refine ⟨fun a q z => ?_, by rw [map_set_fst e]; exact h.nd, fun a q z => ?_⟩
  · have ha : a ≠ p := ne_of_none z h1
    rw [upd_ne ha]; exact h.ex a q z
  · obtain ⟨j, hj, ej⟩ := List.mem_iff_getElem.mp z
    by_cases hij : i = j
    · subst hij
      rw [List.getElem_set_self] at ej
      cases ej
      exact ⟨h1, u, upd_same, r⟩
    · rw [List.getElem_set_ne hij] at ej
      have hj' : j < μ.length := by rw [List.length_set] at hj; exact hj
      have ej' : μ[j]? = some (a, q) := by rw [List.getElem?_eq_getElem hj', ej]
      obtain ⟨h3, w, h4, h5⟩ := h.mu a q (mem_of_get ej')
      have ha : a ≠ p := fun z => by
        subst z
        exact hij (nodup_get h.nd e ej')
      exact ⟨h3, w, by rw [upd_ne ha]; exact h4, h5⟩
/-- cells forgotten -/
theorem Hs.sub {μ' : Mu} (h : Hs K F μ H) (s : μ'.Sublist μ) : Hs K F μ' H := ⟨h.ex, h.nd.sublist (s.map _), fun a o q => h.mu a o (s.subset q)⟩
/-- a list's cell stands still from now on -/
theorem Hs.freeze (h : Hs K F μ H) {i : Nat} {p : Addr} {ds : List D} (e : μ[i]? = some (p, .lst ds)) : ∃ F', Ex F F' ∧ Hs K F' (μ.eraseIdx i) H ∧ Rep K F' (.ref p) (.lst ds) := by
  obtain ⟨h1, _⟩ := h.at_ e
  obtain ⟨xs, h2, h3⟩ := h.lst e
  have hs := h.sub (List.eraseIdx_sublist μ i)
  have hn : ∀ o, (p, o) ∉ μ.eraseIdx i := fun o z => by
    have hl : i < μ.length := (List.getElem?_eq_some_iff.mp e).1
    obtain ⟨j, hj, ne⟩ := List.mem_eraseIdx_iff_getElem?.mp z
    exact hj (nodup_get h.nd ne e)
  obtain ⟨q1, q2⟩ := hs.still h1 h2 hn
  exact ⟨_, q2, q1, .lst upd_same (h3.mono q2)⟩
theorem Hs.of_still {H : Hp} : Hs K H [] H := ⟨Ex.refl H, List.nodup_nil, fun a o z => by cases z⟩
end

/-- what follows a value -/
def Kont (K : PySem.W.Frag) (F : Hp) (Φ : D → Mu → Prop) (Q : VK) : Prop := ∀ v F' H' d μ', Φ d μ' → Ex F F' → Hs K F' μ' H' → Rep K F' v d → Q v H'
def KontA (K : PySem.W.Frag) (F : Hp) (Φ : List D → Mu → Prop) (Q : List V → Hp → Prop) : Prop := ∀ v F' H' d μ', Φ d μ' → Ex F F' → Hs K F' μ' H' → Reps K F' v d → Q v H'
def KontT (K : PySem.W.Frag) (F : Hp) (Φ : Bool → Mu → Prop) (Q : Bool → Hp → Prop) : Prop := ∀ b F' H' μ', Φ b μ' → Ex F F' → Hs K F' μ' H' → Q b H'
def KontS (K : PySem.W.Frag) (F : Hp) (Φ : Rho → Mu → Prop) (Q : St → Hp → Prop) : Prop := ∀ F' H' σ' ρ' μ', Φ ρ' μ' → Ex F F' → Hs K F' μ' H' → Sl K F' ρ' σ' → Q σ' H'
structure En where
  nx : Rho → Mu → Prop
  rt : D → Mu → Prop
  bk : Rho → Mu → Prop := fun _ _ => False
  ct : Rho → Mu → Prop := fun _ _ => False
structure KontE (K : PySem.W.Frag) (F : Hp) (E : En) (D : Ends) : Prop where
  nx : KontS K F E.nx D.nx
  rt : Kont K F E.rt D.rt
  bk : KontS K F E.bk D.bk
  ct : KontS K F E.ct D.ct
section
variable {K : PySem.W.Frag} {F F' : Hp}
theorem Kont.mono (e : Ex F F') {Φ : D → Mu → Prop} {Q : VK} (k : Kont K F Φ Q) : Kont K F' Φ Q := fun v F1 H1 d μ1 h x => k v F1 H1 d μ1 h (e.trans x)
theorem KontA.mono (e : Ex F F') {Φ : List D → Mu → Prop} {Q : List V → Hp → Prop} (k : KontA K F Φ Q) : KontA K F' Φ Q := fun v F1 H1 d μ1 h x => k v F1 H1 d μ1 h (e.trans x)
theorem KontT.mono (e : Ex F F') {Φ : Bool → Mu → Prop} {Q : Bool → Hp → Prop} (k : KontT K F Φ Q) : KontT K F' Φ Q := fun v F1 H1 μ1 h x => k v F1 H1 μ1 h (e.trans x)
theorem KontS.mono (e : Ex F F') {Φ : Rho → Mu → Prop} {Q : St → Hp → Prop} (k : KontS K F Φ Q) : KontS K F' Φ Q := fun F1 H1 s r μ1 h x => k F1 H1 s r μ1 h (e.trans x)
theorem KontE.mono (e : Ex F F') {E : En} {D : Ends} (k : KontE K F E D) : KontE K F' E D := ⟨k.nx.mono e, k.rt.mono e, k.bk.mono e, k.ct.mono e⟩
end

/-! ### what a piece of syntax does, as it stands -/
section
variable (X : Cx)
def sE (e : Expr) : TE := fun σ H Q => ∀ (pins : List (Addr × Obj)) (s : Shared), Inv X pins σ H s → wpAny (model X.prog X.w) X.A (eval e X.env) (EP X pins σ Q) X.xe s
def sT (e : Expr) : TT := fun σ H Q => ∀ (pins : List (Addr × Obj)) (s : Shared), Inv X pins σ H s → wpAny (model X.prog X.w) X.A (isTrue e X.env (eval e X.env)) (TP X pins σ Q) X.xe s
def sW (e : Expr) : TT := fun σ H Q => ∀ (whole : Sem Value) (pins : List (Addr × Obj)) (s : Shared), Inv X pins σ H s → wpAny (model X.prog X.w) X.A (isTrue e X.env whole) (TP X pins σ Q) X.xe s
def sA (es : List Expr) : TA := fun σ H Q => ∀ (pos : Pos) (pins : List (Addr × Obj)) (s : Shared), Inv X pins σ H s → wpAny (model X.prog X.w) X.A (spliced (backTo pos (starEach es X.env))) (AP X pins σ Q) X.xe s
def sS (st : Stmt) : TS := fun D σ H => ∀ (pins : List (Addr × Obj)) (s : Shared), Inv X pins σ H s → wpAny (model X.prog X.w) X.A (exec st X.env) (SP X pins D) X.xe s
def sSs (st : List Stmt) : TS := fun D σ H => ∀ (pins : List (Addr × Obj)) (s : Shared), Inv X pins σ H s → wpAny (model X.prog X.w) X.A (execs st X.env) (SP X pins D) X.xe s
def sG (tg : Expr) : TG := fun v σ H Q => ∀ (pins : List (Addr × Obj)) (s : Shared) (u : Value), Inv X pins σ H s → RelV v u → wpAny (model X.prog X.w) X.A (assign tg X.env u) (fun _ s' => ∃ σ' H', Inv X pins σ' H' s' ∧ Q σ' H') X.xe s
def sGs (ts : List Expr) : TGs := fun vs σ H Q => ∀ (pins : List (Addr × Obj)) (s : Shared) (us : List Value), Inv X pins σ H s → Vals vs us → wpAny (model X.prog X.w) X.A (assignInOrder ((assignEach ts X.env).map (·.2)) us) (fun _ s' => ∃ σ' H', Inv X pins σ' H' s' ∧ Q σ' H') X.xe s
def sI (tg iter : Expr) : TI := fun σ H R => ∀ (pins : List (Addr × Obj)) (s : Shared), Inv X pins σ H s → wpAny (model X.prog X.w) X.A (eval iter X.env) (fun v s1 => wpAny (model X.prog X.w) X.A (pyIter v) (PIE X pins σ tg R) X.xe s1) X.xe s
end
section
variable {X : Cx}
theorem pe_s {e : Expr} : PE X e (sE X e) := ⟨fun pins s σ H Q I h => h pins s I⟩
theorem pt_s {e : Expr} : PT X e (sT X e) := ⟨fun pins s σ H Q I h => h pins s I⟩
theorem pw_s {e : Expr} : PW X e (sW X e) := ⟨fun w pins s σ H Q I h => h w pins s I⟩
theorem pa_s {es : List Expr} : PA X es (sA X es) := ⟨fun pos pins s σ H Q I h => h pos pins s I⟩
theorem ps_s {st : Stmt} : PS X st (sS X st) := ⟨fun pins s σ H D I h => h pins s I⟩
theorem pss_s {st : List Stmt} : PSs X st (sSs X st) := ⟨fun pins s σ H D I h => h pins s I⟩
theorem pg_s {tg : Expr} : PG X tg (sG X tg) := ⟨fun pins s σ H v u Q I r h => h pins s u I r⟩
theorem pgs_s {tg : List Expr} : PGs X tg (sGs X tg) := ⟨fun pins s σ H v u Q I r h => h pins s u I r⟩
theorem pi_s {tg iter : Expr} : PI X tg iter (sI X tg iter) := ⟨fun pins s σ H R I h => h pins s I⟩
theorem se_of {e : Expr} {t : TE} (p : PE X e t) {σ : St} {H : Hp} {Q : VK} (h : t σ H Q) : sE X e σ H Q := fun pins s I => p.run pins s σ H Q I h
theorem st_of {e : Expr} {t : TT} (p : PT X e t) {σ : St} {H : Hp} {Q : Bool → Hp → Prop} (h : t σ H Q) : sT X e σ H Q := fun pins s I => p.run pins s σ H Q I h
theorem sw_of {e : Expr} {t : TT} (p : PW X e t) {σ : St} {H : Hp} {Q : Bool → Hp → Prop} (h : t σ H Q) : sW X e σ H Q := fun w pins s I => p.run w pins s σ H Q I h
theorem sa_of {e : List Expr} {t : TA} (p : PA X e t) {σ : St} {H : Hp} {Q : List V → Hp → Prop} (h : t σ H Q) : sA X e σ H Q := fun pos pins s I => p.run pos pins s σ H Q I h
theorem ss_of {e : Stmt} {t : TS} (p : PS X e t) {σ : St} {H : Hp} {D : Ends} (h : t D σ H) : sS X e D σ H := fun pins s I => p.run pins s σ H D I h
theorem sss_of {e : List Stmt} {t : TS} (p : PSs X e t) {σ : St} {H : Hp} {D : Ends} (h : t D σ H) : sSs X e D σ H := fun pins s I => p.run pins s σ H D I h
theorem sg_of {e : Expr} {t : TG} (p : PG X e t) {v : V} {σ : St} {H : Hp} {Q : St → Hp → Prop} (h : t v σ H Q) : sG X e v σ H Q := fun pins s u I r => p.run pins s σ H v u Q I r h
theorem sgs_of {e : List Expr} {t : TGs} (p : PGs X e t) {v : List V} {σ : St} {H : Hp} {Q : St → Hp → Prop} (h : t v σ H Q) : sGs X e v σ H Q := fun pins s u I r => p.run pins s σ H v u Q I r h
theorem si_of {tg e : Expr} {t : TI} (p : PI X tg e t) {σ : St} {H : Hp} {R : It → Hp → Prop} (h : t σ H R) : sI X tg e σ H R := fun pins s I => p.run pins s σ H R I h
end

/-! ### the calculus -/
section
variable (X : Cx)
def wE (e : Expr) (ρ : Rho) (μ : Mu) (Φ : D → Mu → Prop) : Prop := ∀ F σ H, Hs X.K F μ H → Sl X.K F ρ σ → ∀ Q, Kont X.K F Φ Q → sE X e σ H Q
def wT (e : Expr) (ρ : Rho) (μ : Mu) (Φ : Bool → Mu → Prop) : Prop := ∀ F σ H, Hs X.K F μ H → Sl X.K F ρ σ → ∀ Q, KontT X.K F Φ Q → sT X e σ H Q
def wW (e : Expr) (ρ : Rho) (μ : Mu) (Φ : Bool → Mu → Prop) : Prop := ∀ F σ H, Hs X.K F μ H → Sl X.K F ρ σ → ∀ Q, KontT X.K F Φ Q → sW X e σ H Q
def wA (es : List Expr) (ρ : Rho) (μ : Mu) (Φ : List D → Mu → Prop) : Prop := ∀ F σ H, Hs X.K F μ H → Sl X.K F ρ σ → ∀ Q, KontA X.K F Φ Q → sA X es σ H Q
def wS (st : Stmt) (ρ : Rho) (μ : Mu) (E : En) : Prop := ∀ F σ H, Hs X.K F μ H → Sl X.K F ρ σ → ∀ D, KontE X.K F E D → sS X st D σ H
def wSs (st : List Stmt) (ρ : Rho) (μ : Mu) (E : En) : Prop := ∀ F σ H, Hs X.K F μ H → Sl X.K F ρ σ → ∀ D, KontE X.K F E D → sSs X st D σ H
def wG (tg : Expr) (d : D) (ρ : Rho) (μ : Mu) (Φ : Rho → Mu → Prop) : Prop := ∀ F σ H v, Hs X.K F μ H → Sl X.K F ρ σ → Rep X.K F v d → ∀ Q, KontS X.K F Φ Q → sG X tg v σ H Q
def wGs (ts : List Expr) (ds : List D) (ρ : Rho) (μ : Mu) (Φ : Rho → Mu → Prop) : Prop := ∀ F σ H vs, Hs X.K F μ H → Sl X.K F ρ σ → Reps X.K F vs ds → ∀ Q, KontS X.K F Φ Q → sGs X ts vs σ H Q
/-- operations by values -/
def wOp (f : Value → Value → Sem Value) (d e : D) (μ : Mu) (Φ : D → Mu → Prop) : Prop := ∀ F H x y, Hs X.K F μ H → Rep X.K F x d → Rep X.K F y e → ∀ Q, Kont X.K F Φ Q → ∀ (pins : List (Addr × Obj)) (s : Shared) (σ : St) (v u : Value), Inv X pins σ H s → RelV x v → RelV y u → wpAny (model X.prog X.w) X.A (f v u) (EP X pins σ Q) X.xe s
def wUn (f : Value → Sem Value) (d : D) (μ : Mu) (Φ : D → Mu → Prop) : Prop := ∀ F H x, Hs X.K F μ H → Rep X.K F x d → ∀ Q, Kont X.K F Φ Q → ∀ (pins : List (Addr × Obj)) (s : Shared) (σ : St) (v : Value), Inv X pins σ H s → RelV x v → wpAny (model X.prog X.w) X.A (f v) (EP X pins σ Q) X.xe s
def wCl (f : Value) (ds : List D) (μ : Mu) (Φ : D → Mu → Prop) : Prop := ∀ F H xs, Hs X.K F μ H → Reps X.K F xs ds → ∀ Q, Kont X.K F Φ Q → ∀ (pins : List (Addr × Obj)) (s : Shared) (σ : St) (us : List Value), Inv X pins σ H s → Vals xs us → wpAny (model X.prog X.w) X.A (call f us) (EP X pins σ Q) X.xe s
/-- a subscript by values -/
def wIx (d e : D) (μ : Mu) (Φ : D → Mu → Prop) : Prop := ∀ F H x y, Hs X.K F μ H → Rep X.K F x d → Rep X.K F y e → ∀ Q, Kont X.K F Φ Q → ∀ (value slice : Expr) (pins : List (Addr × Obj)) (s : Shared) (σ : St) (v u : Value), Inv X pins σ H s → RelV x v → RelV y u →
  subscripted slice false v u = operate [v, u] (getItem v u) → wpAny (model X.prog X.w) X.A (PyProof.Rows.subscriptTail value slice v u) (EP X pins σ Q) X.xe s
/-- what is walked: the items -/
def Wk (K : PySem.W.Frag) (F : Hp) (J : It) (its : List D) : Prop := ∀ i F' μ H, Ex F F' → Hs K F' μ H → (i < its.length → J.go i H) ∧ (i = its.length → J.stop i H) ∧ ∀ x H' d, J.yld i H x H' → its[i]? = some d → ∃ F2, Ex F' F2 ∧ Hs K F2 μ H' ∧ Rep K F2 x d
def wI (tg iter : Expr) (ρ : Rho) (μ : Mu) (Φ : List D → Mu → Prop) : Prop := ∀ F σ H, Hs X.K F μ H → Sl X.K F ρ σ → ∀ R, (∀ J its F' μ' H', Φ its μ' → Ex F F' → Hs X.K F' μ' H' → Wk X.K F' J its → R J H') → sI X tg iter σ H R
end

section
variable {X : Cx} {e a b c : Expr} {es : List Expr} {ρ : Rho} {μ : Mu} {Φ : D → Mu → Prop} {ΦT : Bool → Mu → Prop} {ΦA : List D → Mu → Prop} {E : En} {pos p : Pos}

/-! expressions -/
theorem w_name (i : Nat) {x : Str} {d : D} (hN : X.N[i]? = some x) (hv : Vis X.env.scope x) (h : ρ[i]? = some (some d)) (k : Φ d μ) (hd : (x == ("__debug__" : Str)) = false := by decide) (hcd : (x == ("__classdict__" : Str)) = false := by decide) : wE X (.Name x pos) ρ μ Φ := fun F σ H hs sl Q kt => by
  obtain ⟨v, h1, h2⟩ := sl.at_ i d h
  exact se_of (pe_var hN hv hd hcd) ⟨v, h1, kt v F H d μ k (Ex.refl F) hs h2⟩
theorem w_int {i j} (k : Φ (.int i) μ) : wE X (.Constant (.int i) j pos) ρ μ Φ := fun F σ H hs sl Q kt => se_of pe_int (kt _ F H _ μ k (Ex.refl F) hs (.int i))
theorem w_bl {i j} (k : Φ (.bl i) μ) : wE X (.Constant (.bool i) j pos) ρ μ Φ := fun F σ H hs sl Q kt => se_of pe_bl (kt _ F H _ μ k (Ex.refl F) hs (.bl i))
theorem w_non {j} (k : Φ .non μ) : wE X (.Constant .none j pos) ρ μ Φ := fun F σ H hs sl Q kt => se_of pe_non (kt _ F H _ μ k (Ex.refl F) hs .non)
theorem w_str {i j} (k : Φ (.str i) μ) : wE X (.Constant (.str i) j pos) ρ μ Φ := fun F σ H hs sl Q kt => se_of pe_str (kt _ F H _ μ k (Ex.refl F) hs (.str i))
/-- a list made here stands still behind e -/
theorem w_fz (h : wE X e ρ μ fun d μ1 => ∃ i p ds, d = .ptr p ∧ μ1[i]? = some (p, .lst ds) ∧ Φ (.lst ds) (μ1.eraseIdx i)) : wE X e ρ μ Φ := fun F σ H hs sl Q kt =>
  h F σ H hs sl Q fun v F1 H1 d μ1 ⟨i, p, ds, hd, hi, q⟩ x1 hs1 r => by
    subst hd
    cases r
    obtain ⟨F2, x2, hs2, r2⟩ := hs1.freeze hi
    exact kt _ F2 H1 _ _ q (x1.trans x2) hs2 r2
theorem w_mono {Ψ : D → Mu → Prop} (h : wE X e ρ μ Ψ) (k : ∀ d μ', Ψ d μ' → Φ d μ') : wE X e ρ μ Φ := fun F σ H hs sl Q kt => h F σ H hs sl Q fun v F1 H1 d μ1 q => kt v F1 H1 d μ1 (k d μ1 q)
/-- cells that are needed no more -/
theorem w_sub {μ' : Mu} (s : μ'.Sublist μ) (h : wE X e ρ μ' Φ) : wE X e ρ μ Φ := fun F σ H hs sl Q kt => h F σ H (hs.sub s) sl Q kt

/-- cells that are needed no more, behind e -/
theorem w_dr (h : wE X e ρ μ fun d μ1 => ∃ μ2, μ2.Sublist μ1 ∧ Φ d μ2) : wE X e ρ μ Φ := fun F σ H hs sl Q kt => h F σ H hs sl Q fun v F1 H1 d μ1 ⟨μ2, s, q⟩ x hs1 r => kt v F1 H1 d μ2 q x (hs1.sub s) r

theorem binW {R : V → V → Hp → Prop} {ΨT : D → D → Mu → Prop} (h : wE X a ρ μ fun d1 μ1 => wE X b ρ μ1 fun d2 μ2 => ΨT d1 d2 μ2) {F : Hp} {σ : St} {H : Hp} (hs : Hs X.K F μ H) (sl : Sl X.K F ρ σ)
    (k : ∀ x y F2 H2 d1 d2 μ2, ΨT d1 d2 μ2 → Ex F F2 → Hs X.K F2 μ2 H2 → Rep X.K F2 x d1 → Rep X.K F2 y d2 → R x y H2) : sE X a σ H fun x H1 => sE X b σ H1 fun y H2 => R x y H2 :=
  h F σ H hs sl _ fun x F1 H1 d1 μ1 h1 e1 hs1 r1 => h1 F1 σ H1 hs1 (sl.mono e1) _ fun y F2 H2 d2 μ2 h2 e2 hs2 r2 => k x y F2 H2 d1 d2 μ2 h2 (e1.trans e2) hs2 (r1.mono e2) r2
/-- the semantic operator -/
def semR (X : Cx) (f : Value → Value → Sem Value) : R2 := fun x y H Q => ∀ (pins : List (Addr × Obj)) (s : Shared) (σ : St) (v u : Value), Inv X pins σ H s → RelV x v → RelV y u → wpAny (model X.prog X.w) X.A (f v u) (EP X pins σ Q) X.xe s
theorem op_s {f : Value → Value → Sem Value} : OpR X f (semR X f) := fun pins s σ H x y v u Q I rx ry h => h pins s σ v u I rx ry
theorem w_bin {op : Operator} (h : wE X a ρ μ fun d1 μ1 => wE X b ρ μ1 fun d2 μ2 => wOp X (binaryOp op) d1 d2 μ2 Φ) : wE X (.BinOp a op b pos) ρ μ Φ := fun F σ H hs sl Q kt =>
  se_of (pe_op op_s pe_s pe_s) (binW h hs sl fun x y F2 H2 d1 d2 μ2 q e hs2 r1 r2 => q F2 H2 x y hs2 r1 r2 Q (kt.mono e))
theorem w_cmp {op : CmpOp} (h : wE X a ρ μ fun d1 μ1 => wE X b ρ μ1 fun d2 μ2 => wOp X (compareOp op) d1 d2 μ2 Φ) (hm : behindInMarks op b = false := by rfl) : wE X (.Compare a [op] [b] pos) ρ μ Φ := fun F σ H hs sl Q kt =>
  se_of (pe_cmpR op_s pe_s pe_s hm) (binW h hs sl fun x y F2 H2 d1 d2 μ2 q e hs2 r1 r2 => q F2 H2 x y hs2 r1 r2 Q (kt.mono e))
theorem w_un {op : UnaryOp} (h : wE X a ρ μ fun d1 μ1 => wUn X (unaryOp op) d1 μ1 Φ) : wE X (.UnaryOp op a pos) ρ μ Φ := fun F σ H hs sl Q kt =>
  se_of (pe_un (r := fun x H Q => ∀ (pins : List (Addr × Obj)) (s : Shared) (σ : St) (v : Value), Inv X pins σ H s → RelV x v → wpAny (model X.prog X.w) X.A (unaryOp op v) (EP X pins σ Q) X.xe s) (fun pins s σ H x v Q I r h => h pins s σ v I r) pe_s)
    (h F σ H hs sl _ fun x F1 H1 d1 μ1 q e1 hs1 r1 => q F1 H1 x hs1 r1 Q (kt.mono e1))
theorem w_ix (h : wE X a ρ μ fun d1 μ1 => wE X b ρ μ1 fun d2 μ2 => wIx X d1 d2 μ2 Φ) (hs : PlainIx b := by exact fun _ _ => rfl) : wE X (.Subscript a b pos) ρ μ Φ := fun F σ H hh sl Q kt =>
  se_of (pe_ix (r := fun x y H Q => ∀ (value slice : Expr) (pins : List (Addr × Obj)) (s : Shared) (σ : St) (v u : Value), Inv X pins σ H s → RelV x v → RelV y u →
    subscripted slice false v u = operate [v, u] (getItem v u) → wpAny (model X.prog X.w) X.A (PyProof.Rows.subscriptTail value slice v u) (EP X pins σ Q) X.xe s) (fun value slice pins s σ H x y v u Q I rx ry h z => h value slice pins s σ v u I rx ry z) pe_s pe_s hs)
    (binW h hh sl fun x y F2 H2 d1 d2 μ2 q e hs2 r1 r2 => q F2 H2 x y hs2 r1 r2 Q (kt.mono e))
/-! argument lists, displays -/
theorem wa_nil (k : ΦA [] μ) : wA X [] ρ μ ΦA := fun F σ H hs sl Q kt => sa_of pa_nil (kt [] F H [] μ k (Ex.refl F) hs .nil)
theorem wa_cons (h : wE X e ρ μ fun d μ1 => wA X es ρ μ1 fun ds μ2 => ΦA (d :: ds) μ2) (hst : starEach (e :: es) X.env = (false, eval e X.env) :: starEach es X.env := by rfl) : wA X (e :: es) ρ μ ΦA := fun F σ H hs sl Q kt =>
  sa_of (pa_cons pe_s pa_s hst) (h F σ H hs sl _ fun x F1 H1 d μ1 h1 e1 hs1 r1 => h1 F1 σ H1 hs1 (sl.mono e1) _ fun xs F2 H2 ds μ2 h2 e2 hs2 r2 => kt (x :: xs) F2 H2 (d :: ds) μ2 h2 (e1.trans e2) hs2 (.cons (r1.mono e2) r2))
theorem w_tup {n} (h : wA X es ρ μ fun ds μ1 => ds.length ≤ 100000 ∧ Φ (.tup ds) μ1) : wE X (.Tuple es n pos) ρ μ Φ := fun F σ H hs sl Q kt =>
  se_of (pe_tup pa_s) (h F σ H hs sl _ fun xs F1 H1 ds μ1 ⟨hz, q⟩ e1 hs1 r1 => ⟨Evl.sz_of (by rw [r1.length]; exact hz), fun p hp => by
    obtain ⟨g1, g2⟩ := hs1.laid (u := .tup xs) hp
    exact kt _ _ _ _ _ q (e1.trans g2) g1 (.tup (.inl (.inl upd_same)) (r1.mono g2))⟩)
/-- a list that stands still from the start -/
theorem w_lst (h : wA X es ρ μ fun ds μ1 => ds.length ≤ 100000 ∧ Φ (.lst ds) μ1) : wE X (.List es pos) ρ μ Φ := fun F σ H hs sl Q kt =>
  se_of (pe_lst pa_s) (h F σ H hs sl _ fun xs F1 H1 ds μ1 ⟨hz, q⟩ e1 hs1 r1 => ⟨Evl.sz_of (by rw [r1.length]; exact hz), fun p hp => by
    obtain ⟨g1, g2⟩ := hs1.laid (u := .lst xs) hp
    exact kt _ _ _ _ _ q (e1.trans g2) g1 (.lst upd_same (r1.mono g2))⟩)
/-- a list that will change -/
theorem w_lstM (h : wA X es ρ μ fun ds μ1 => ds.length ≤ 100000 ∧ ∀ p, Φ (.ptr p) ((p, .lst ds) :: μ1)) : wE X (.List es pos) ρ μ Φ := fun F σ H hs sl Q kt =>
  se_of (pe_lst pa_s) (h F σ H hs sl _ fun xs F1 H1 ds μ1 ⟨hz, q⟩ e1 hs1 r1 => ⟨Evl.sz_of (by rw [r1.length]; exact hz), fun p hp => kt _ _ _ _ _ (q p) e1 (hs1.cell hp (.lst r1)) (.ptr p)⟩)
/-! calls -/
theorem w_callB {x : Str} {id : String} (hm : X.mg x = none) (h : wA X (e :: es) ρ μ fun ds μ1 => wCl X (.builtin id) ds μ1 Φ) (hg : Gl X x := by rfl) (hv : bootBuiltins x = some (.builtin id) := by decide +kernel) (hn : x ≠ "__name__" := by decide) (hdb : (x == ("__debug__" : Str)) = false := by decide)
    (he : starEach (e :: es) X.env = (false, eval e X.env) :: starEach es X.env := by rfl) (hpl : (backTo pos (starEach es X.env)).any (·.1) = false := by rfl) : wE X (.Call (.Name x p) (e :: es) [] pos) ρ μ Φ := fun F σ H hs sl Q kt =>
  se_of (pe_callB (r := fun xs H Q => ∀ (pins : List (Addr × Obj)) (s : Shared) (σ : St) (us : List Value), Inv X pins σ H s → Vals xs us → wpAny (model X.prog X.w) X.A (call (.builtin id) us) (EP X pins σ Q) X.xe s) (fun pins s σ H xs us Q I r h => h pins s σ us I r) hg hm hv pa_s hn hdb he hpl)
    (h F σ H hs sl _ fun xs F1 H1 ds μ1 q e1 hs1 r1 => q F1 H1 xs hs1 r1 Q (kt.mono e1))
theorem w_callTy {x : Str} {T : String} (hm : X.mg x = none) (h : wA X (e :: es) ρ μ fun ds μ1 => wCl X (.type T) ds μ1 Φ) (hg : Gl X x := by rfl) (hv : bootBuiltins x = some (.type T) := by decide +kernel) (hn : x ≠ "__name__" := by decide) (hdb : (x == ("__debug__" : Str)) = false := by decide)
    (he : starEach (e :: es) X.env = (false, eval e X.env) :: starEach es X.env := by rfl) (hpl : (backTo pos (starEach es X.env)).any (·.1) = false := by rfl) : wE X (.Call (.Name x p) (e :: es) [] pos) ρ μ Φ := fun F σ H hs sl Q kt =>
  se_of (pe_callTy (r := fun xs H Q => ∀ (pins : List (Addr × Obj)) (s : Shared) (σ : St) (us : List Value), Inv X pins σ H s → Vals xs us → wpAny (model X.prog X.w) X.A (call (.type T) us) (EP X pins σ Q) X.xe s) (fun pins s σ H xs us Q I r h => h pins s σ us I r) hg hm hv pa_s hn hdb he hpl)
    (h F σ H hs sl _ fun xs F1 H1 ds μ1 q e1 hs1 r1 => q F1 H1 xs hs1 r1 Q (kt.mono e1))
/-- a value that names a built-in type, as an argument -/
abbrev FS := List D → Mu → (D → Mu → Prop) → Prop
/-- a def's promise over data -/
def spD (K : PySem.W.Frag) (S : FS) : Sp := fun vs H Q _ => ∃ F ds μ Φ, Hs K F μ H ∧ Reps K F vs ds ∧ S ds μ Φ ∧ Kont K F Φ Q
theorem w_call {x : Str} {f : Addr} {k : Nat} {fd : FuncData} {ps : List Str} {S : FS} (G : FnOk X.prog X.w X.K X.mg X.base CX0 k f fd ps (spD X.K S)) (hr : Room k X.A) (hm : X.mg x = some (.ref f)) (hk : PySem.W.keepIn X.K (.ref f) = true) (hb : Binds X.K fd ps [])
    (h : wA X (e :: es) ρ μ fun ds μ1 => S ds μ1 Φ) (hg : Gl X x := by rfl) (hdb : (x == ("__debug__" : Str)) = false := by decide) (he : starEach (e :: es) X.env = (false, eval e X.env) :: starEach es X.env := by rfl) (hpl : (backTo pos (starEach es X.env)).any (·.1) = false := by rfl) :
    wE X (.Call (.Name x p) (e :: es) [] pos) ρ μ Φ := fun F σ H hs sl Q kt =>
  se_of (pe_call G hr hg hm hk hb .nil pass0 pa_s hdb he hpl) (h F σ H hs sl _ fun xs F1 H1 ds μ1 q e1 hs1 r1 => by
    rw [List.append_nil]
    exact ⟨F1, ds, μ1, Φ, hs1, r1, q, kt.mono e1⟩)
/-- a method of a built-in type -/
def wMt (X : Cx) (T id : String) (d : D) (ds : List D) (μ : Mu) (Φ : D → Mu → Prop) : Prop := ∀ F H x xs, Hs X.K F μ H → Rep X.K F x d → Reps X.K F xs ds → ∀ Q, Kont X.K F Φ Q → ∀ (pins : List (Addr × Obj)) (s : Shared) (σ : St) (v : Value) (us : List Value), Inv X pins σ H s → RelV x v → Vals xs us → wpAny (model X.prog X.w) X.A (call (.builtin id) (v :: us)) (EP X pins σ Q) X.xe s
/-- of which type the receiver is -/
def tyD (T : String) (d : D) (μ : Mu) : Prop := match d with
  | .str _ => T = "str"
  | .lst _ => T = "list"
  | .scr _ => T = "list"
  | .tup _ => T = "tuple"
  | .ptr p => (T = "list" ∧ ∃ (i : Nat) (l : List D), μ[i]? = some (p, MO.lst l)) ∨ (T = "dict" ∧ ∃ (i : Nat) (l : List (Key × D)), μ[i]? = some (p, MO.dk l)) ∨ (T = "dict" ∧ ∃ (i : Nat) (l : List (List Key × D)), μ[i]? = some (p, MO.dt l))
  | _ => False
end
end Oc

/-! Own layer, part 2: statements, loops, comprehensions, defs. -/
namespace Oc
open PySem PySem.Spec L2
open Evl (Ex)
section
variable {X : Cx} {e a b c : Expr} {es : List Expr} {st : Stmt} {sts us : List Stmt} {ρ : Rho} {μ : Mu} {Φ : D → Mu → Prop} {ΦT : Bool → Mu → Prop} {ΦA : List D → Mu → Prop} {ΦS : Rho → Mu → Prop} {E : En} {pos p : Pos}

/-! tests -/
theorem wt_val (h : wE X e ρ μ fun d μ1 => ∃ b, d = .bl b ∧ ΦT b μ1) (he : ∀ whole, isTrue e X.env whole = (do let v ← whole; standAt e.pos; holding [v] (truthy v)) := by intro _; rfl) : wT X e ρ μ ΦT := fun F σ H hs sl Q kt =>
  st_of (pt_val pe_s he) (h F σ H hs sl _ fun v F1 H1 d μ1 ⟨b, hd, q⟩ e1 hs1 r1 => by
    subst hd
    cases r1
    exact ⟨b, rfl, kt b F1 H1 μ1 q e1 hs1⟩)
theorem wt_cmp {op : CmpOp} (h : wE X a ρ μ fun d1 μ1 => wE X b ρ μ1 fun d2 μ2 => wOp X (compareOp op) d1 d2 μ2 fun d μ3 => ∃ k, d = .bl k ∧ ΦT k μ3) (hm : behindInMarks op b = false := by rfl) : wT X (.Compare a [op] [b] pos) ρ μ ΦT := fun F σ H hs sl Q kt =>
  st_of (pt_cmpR op_s pe_s pe_s hm) (binW h hs sl fun x y F2 H2 d1 d2 μ2 q e hs2 r1 r2 => q F2 H2 x y hs2 r1 r2 _ fun v F3 H3 d μ3 ⟨k, hd, q3⟩ e3 hs3 r3 => by
    subst hd
    cases r3
    exact ⟨k, rfl, kt k F3 H3 μ3 q3 (e.trans e3) hs3⟩)
theorem wt_not (h : wT X a ρ μ fun b μ1 => ΦT (!b) μ1) : wT X (.UnaryOp .Not a pos) ρ μ ΦT := fun F σ H hs sl Q kt =>
  st_of (pt_not pt_s) (h F σ H hs sl _ fun b F1 H1 μ1 q e1 hs1 => kt (!b) F1 H1 μ1 q e1 hs1)
theorem wt_w (h : wW X e ρ μ ΦT) : wT X e ρ μ ΦT := fun F σ H hs sl Q kt => st_of (PW.pt pw_s) (h F σ H hs sl Q kt)
theorem ww_and1 (h : wT X a ρ μ ΦT) : wW X (.BoolOp .And [a] pos) ρ μ ΦT := fun F σ H hs sl Q kt => sw_of (pw_and1 pt_s) (h F σ H hs sl Q kt)
theorem ww_or1 (h : wT X a ρ μ ΦT) : wW X (.BoolOp .Or [a] pos) ρ μ ΦT := fun F σ H hs sl Q kt => sw_of (pw_or1 pt_s) (h F σ H hs sl Q kt)
theorem ww_and {rest : List Expr} (h : wT X a ρ μ fun k μ1 => (k = true → wW X (.BoolOp .And (b :: rest) pos) ρ μ1 ΦT) ∧ (k = false → ΦT false μ1)) : wW X (.BoolOp .And (a :: b :: rest) pos) ρ μ ΦT := fun F σ H hs sl Q kt =>
  sw_of (pw_and pt_s pw_s) (h F σ H hs sl _ fun k F1 H1 μ1 q e1 hs1 => by
    cases k with
    | true => exact q.1 rfl F1 σ H1 hs1 (sl.mono e1) Q (kt.mono e1)
    | false => exact kt false F1 H1 μ1 (q.2 rfl) e1 hs1)
theorem ww_or {rest : List Expr} (h : wT X a ρ μ fun k μ1 => (k = false → wW X (.BoolOp .Or (b :: rest) pos) ρ μ1 ΦT) ∧ (k = true → ΦT true μ1)) : wW X (.BoolOp .Or (a :: b :: rest) pos) ρ μ ΦT := fun F σ H hs sl Q kt =>
  sw_of (pw_or pt_s pw_s) (h F σ H hs sl _ fun k F1 H1 μ1 q e1 hs1 => by
    cases k with
    | false => exact q.1 rfl F1 σ H1 hs1 (sl.mono e1) Q (kt.mono e1)
    | true => exact kt true F1 H1 μ1 (q.2 rfl) e1 hs1)
theorem wt_mono {Ψ : Bool → Mu → Prop} (h : wT X e ρ μ Ψ) (k : ∀ d μ', Ψ d μ' → ΦT d μ') : wT X e ρ μ ΦT := fun F σ H hs sl Q kt => h F σ H hs sl Q fun v F1 H1 μ1 q => kt v F1 H1 μ1 (k v μ1 q)
/-- and, or, not, if as values -/
theorem w_andV {rest : List Expr} (h : wE X a ρ μ fun d μ1 => ∃ k, d = .bl k ∧ (k = true → wE X (.BoolOp .And (b :: rest) pos) ρ μ1 Φ) ∧ (k = false → Φ (.bl false) μ1)) : wE X (.BoolOp .And (a :: b :: rest) pos) ρ μ Φ := fun F σ H hs sl Q kt =>
  se_of (pe_and pe_s pe_s) (h F σ H hs sl _ fun v F1 H1 d μ1 ⟨k, hd, q⟩ e1 hs1 r1 => by
    subst hd
    cases r1
    refine ⟨k, rfl, ?_⟩
    cases k with
    | true => exact q.1 rfl F1 σ H1 hs1 (sl.mono e1) Q (kt.mono e1)
    | false => exact kt _ F1 H1 _ μ1 (q.2 rfl) e1 hs1 (.bl false))
theorem w_orV {rest : List Expr} (h : wE X a ρ μ fun d μ1 => ∃ k, d = .bl k ∧ (k = false → wE X (.BoolOp .Or (b :: rest) pos) ρ μ1 Φ) ∧ (k = true → Φ (.bl true) μ1)) : wE X (.BoolOp .Or (a :: b :: rest) pos) ρ μ Φ := fun F σ H hs sl Q kt =>
  se_of (pe_or pe_s pe_s) (h F σ H hs sl _ fun v F1 H1 d μ1 ⟨k, hd, q⟩ e1 hs1 r1 => by
    subst hd
    cases r1
    refine ⟨k, rfl, ?_⟩
    cases k with
    | false => exact q.1 rfl F1 σ H1 hs1 (sl.mono e1) Q (kt.mono e1)
    | true => exact kt _ F1 H1 _ μ1 (q.2 rfl) e1 hs1 (.bl true))
theorem w_notV (h : wE X a ρ μ fun d μ1 => ∃ k, d = .bl k ∧ Φ (.bl (!k)) μ1) : wE X (.UnaryOp .Not a pos) ρ μ Φ := fun F σ H hs sl Q kt =>
  se_of (pe_not pe_s) (h F σ H hs sl _ fun v F1 H1 d μ1 ⟨k, hd, q⟩ e1 hs1 r1 => by
    subst hd
    cases r1
    exact ⟨k, rfl, kt _ F1 H1 _ μ1 q e1 hs1 (.bl _)⟩)
theorem w_andV1 (h : wE X a ρ μ Φ) : wE X (.BoolOp .And [a] pos) ρ μ Φ := fun F σ H hs sl Q kt => se_of (pe_one (op := .And) pe_s) (h F σ H hs sl Q kt)
theorem w_orV1 (h : wE X a ρ μ Φ) : wE X (.BoolOp .Or [a] pos) ρ μ Φ := fun F σ H hs sl Q kt => se_of (pe_one (op := .Or) pe_s) (h F σ H hs sl Q kt)
theorem w_ifx (h : wT X c ρ μ fun k μ1 => (k = true → wE X a ρ μ1 Φ) ∧ (k = false → wE X b ρ μ1 Φ)) : wE X (.IfExp c a b pos) ρ μ Φ := fun F σ H hs sl Q kt =>
  se_of (pe_ifExp pt_s pe_s pe_s) (h F σ H hs sl _ fun k F1 H1 μ1 q e1 hs1 => by
    cases k with
    | true =>
      rw [if_pos rfl]
      exact q.1 rfl F1 σ H1 hs1 (sl.mono e1) Q (kt.mono e1)
    | false =>
      rw [if_neg Bool.false_ne_true]
      exact q.2 rfl F1 σ H1 hs1 (sl.mono e1) Q (kt.mono e1))

/-! statements -/
theorem w_nil (k : E.nx ρ μ) : wSs X [] ρ μ E := fun F σ H hs sl D kt => sss_of pss_nil (kt.nx F H σ ρ μ k (Ex.refl F) hs sl)
theorem KontE.nx' {K : PySem.W.Frag} {F : Hp} {E : En} {D : Ends} (k : KontE K F E D) {R : Rho → Mu → Prop} {R' : L2.St → Hp → Prop} (h : KontS K F R R') : KontE K F { E with nx := R } { D with nx := R' } := ⟨h, k.rt, k.bk, k.ct⟩
theorem w_cons (h : wS X st ρ μ { E with nx := fun ρ' μ' => wSs X sts ρ' μ' E }) : wSs X (st :: sts) ρ μ E := fun F σ H hs sl D kt =>
  sss_of (pss_cons ps_s pss_s) (h F σ H hs sl _ (kt.nx' fun F1 H1 σ1 ρ1 μ1 q e1 hs1 sl1 => q F1 σ1 H1 hs1 sl1 D (kt.mono e1)))
theorem w_one (h : wS X st ρ μ E) : wSs X [st] ρ μ E := fun F σ H hs sl D kt => sss_of (pss_one ps_s) (h F σ H hs sl D kt)
theorem w_expr (h : wE X e ρ μ fun _ μ1 => E.nx ρ μ1) (hsw : swapsWith e none pos.line X.env = pure false := by rfl) : wS X (.Expr e pos) ρ μ E := fun F σ H hs sl D kt =>
  ss_of (ps_expr pe_s hsw) (h F σ H hs sl _ fun v F1 H1 d μ1 q e1 hs1 _ => kt.nx F1 H1 σ ρ μ1 q e1 hs1 (sl.mono e1))
theorem w_ret (h : wE X e ρ μ E.rt) : wS X (.Return (some e) pos) ρ μ E := fun F σ H hs sl D kt => ss_of (ps_ret pe_s) (h F σ H hs sl _ kt.rt)
theorem w_retN (h : E.rt .non μ) : wS X (.Return none pos) ρ μ E := fun F σ H hs sl D kt => ss_of ps_retN (kt.rt _ F H _ μ h (Ex.refl F) hs .non)
theorem w_pass (h : E.nx ρ μ) : wS X (.Pass pos) ρ μ E := fun F σ H hs sl D kt => ss_of ps_pass (kt.nx F H σ ρ μ h (Ex.refl F) hs sl)
theorem w_brk (h : E.bk ρ μ) : wS X (.Break pos) ρ μ E := fun F σ H hs sl D kt => ss_of ps_break (kt.bk F H σ ρ μ h (Ex.refl F) hs sl)
theorem w_cnt (h : E.ct ρ μ) : wS X (.Continue pos) ρ μ E := fun F σ H hs sl D kt => ss_of ps_continue (kt.ct F H σ ρ μ h (Ex.refl F) hs sl)
theorem w_if (h : wT X c ρ μ fun k μ1 => (k = true → wSs X sts ρ μ1 E) ∧ (k = false → wSs X us ρ μ1 E)) : wS X (.If c sts us pos) ρ μ E := fun F σ H hs sl D kt =>
  ss_of (ps_if pt_s pss_s pss_s) (h F σ H hs sl _ fun k F1 H1 μ1 q e1 hs1 => by
    cases k with
    | true =>
      rw [if_pos rfl]
      exact q.1 rfl F1 σ H1 hs1 (sl.mono e1) D (kt.mono e1)
    | false =>
      rw [if_neg Bool.false_ne_true]
      exact q.2 rfl F1 σ H1 hs1 (sl.mono e1) D (kt.mono e1))
/-- what is known of cells and slots may be said with less -/
theorem wSs_sub {μ' : Mu} (s : μ'.Sublist μ) (h : wSs X sts ρ μ' E) : wSs X sts ρ μ E := fun F σ H hs sl D kt => h F σ H (hs.sub s) sl D kt
/-- a list is changed no more: cell i, which slot j names -/
theorem wSs_fz {i j : Nat} {q : Addr} {ds : List D} (hi : μ[i]? = some (q, .lst ds)) (hj : ρ[j]? = some (some (.ptr q))) (h : wSs X sts (ρ.set j (some (.lst ds))) (μ.eraseIdx i) E) : wSs X sts ρ μ E := fun F σ H hs sl D kt => by
  obtain ⟨F', e1, hs1, r1⟩ := hs.freeze hi
  obtain ⟨v, hv, rv⟩ := sl.at_ j _ hj
  cases rv
  have e2 : σ.set j (some (V.ref q)) = σ := by
    apply List.ext_getElem?
    intro k
    by_cases hk : j = k
    · subst hk
      rw [List.getElem?_set_self (List.getElem?_eq_some_iff.mp hv).1, hv]
    · rw [List.getElem?_set_ne hk]
  have sl1 := (sl.mono e1).set j r1
  rw [e2] at sl1
  exact h F' σ H hs1 sl1 D (kt.mono e1)

/-! targets -/
theorem wg_name (i : Nat) {x : Str} {d : D} (hN : X.N.Nodup) (hi : X.N[i]? = some x) (hx : Loc X.env.scope x) (hf : X.fn x = true ∨ X.env.scope.names.lookup x = some .local) (k : ΦS (ρ.set i (some d)) μ) : wG X (.Name x pos) d ρ μ ΦS := fun F σ H v hs sl r Q kt =>
  sg_of (pg_name hN hi hx hf) (kt F H _ _ μ k (Ex.refl F) hs (sl.set i r))
theorem wgs_nil (k : ΦS ρ μ) : wGs X [] [] ρ μ ΦS := fun F σ H v hs sl r Q kt => by
  cases r
  exact sgs_of pgs_nil ⟨rfl, kt F H σ ρ μ k (Ex.refl F) hs sl⟩
theorem wgs_cons {d : D} {ds : List D} (h : wG X e d ρ μ fun ρ1 μ1 => wGs X es ds ρ1 μ1 ΦS) (hs : (assignEach (e :: es) X.env).map (·.2) = assign e X.env :: (assignEach es X.env).map (·.2) := by rfl) : wGs X (e :: es) (d :: ds) ρ μ ΦS := fun F σ H vs hh sl r Q kt => by
  cases r with
  | cons r rr =>
    exact sgs_of (pgs_cons pg_s pgs_s hs) ⟨_, _, rfl, h F σ H _ hh sl r _ fun F1 H1 σ1 ρ1 μ1 q e1 hs1 sl1 => q F1 σ1 H1 _ hs1 sl1 (rr.mono e1) Q (kt.mono e1)⟩
theorem wg_tup {n : Nat} {ds : List D} (hc : X.calm = true) (hl : ds.length = es.length) (h : wGs X es ds ρ μ ΦS) (hn : (assignEach es X.env).length = es.length := by rfl) (hst : (assignEach es X.env).findIdx? (·.1) = none := by rfl) : wG X (.Tuple es n pos) (.tup ds) ρ μ ΦS := fun F σ H v hs sl r Q kt => by
  cases r with
  | tup h1 h2 => exact sg_of (pg_tup hc pgs_s hn hst) ⟨_, _, rfl, Evl.ex_t hs.ex h1, h2.length.trans hl, h F σ H _ hs sl h2 Q kt⟩
theorem w_asg {tg : Expr} (h : wE X e ρ μ fun d μ1 => wG X tg d ρ μ1 E.nx) (hs : swapsWithSole [tg] e pos.line X.env = pure false := by rfl) (hw : swappedStores [tg] e X.env = pure none := by rfl)
    (h1 : (assignEach [tg] X.env).map (·.2) = [assign tg X.env] := by rfl) : wS X (.Assign [tg] e pos) ρ μ E := fun F σ H hh sl D kt =>
  ss_of (ps_asg pe_s pg_s hs hw h1) (h F σ H hh sl _ fun v F1 H1 d μ1 q e1 hs1 r1 => q F1 σ H1 v hs1 (sl.mono e1) r1 _ (kt.nx.mono e1))
theorem w_set (i : Nat) {x : Str} {q : Pos} (hN : X.N.Nodup) (hi : X.N[i]? = some x) (hx : Loc X.env.scope x) (hf : X.fn x = true ∨ X.env.scope.names.lookup x = some .local) (h : wE X e ρ μ fun d μ1 => E.nx (ρ.set i (some d)) μ1)
    (hs : swapsWith e (some (.Name x q)) pos.line X.env = pure false := by rfl) : wS X (.Assign [.Name x q] e pos) ρ μ E := fun F σ H hh sl D kt =>
  ss_of (ps_set hN hi hx pe_s hs hf) (h F σ H hh sl _ fun v F1 H1 d μ1 q e1 hs1 r1 => kt.nx F1 H1 _ _ μ1 q e1 hs1 ((sl.mono e1).set i r1))
theorem w_par (i j : Nat) {x y : Str} {px py pt : Pos} {kt' k2 : Nat} {pt2 : Pos} (hc : X.calm = true) (hN : X.N.Nodup) (hi : X.N[i]? = some x) (hj : X.N[j]? = some y) (hij : i ≠ j)
    (hx : X.env.scope.names.lookup x = some .local) (hy : X.env.scope.names.lookup y = some .local) (hw : swappedStores [.Tuple [.Name x px, .Name y py] kt' pt] (.Tuple [a, b] k2 pt2) X.env = pure (some [x, y]))
    (h : wA X [a, b] ρ μ fun ds μ1 => ∃ d1 d2, ds = [d1, d2] ∧ E.nx ((ρ.set i (some d1)).set j (some d2)) μ1)
    (hs : swapsWithSole [.Tuple [.Name x px, .Name y py] kt' pt] (.Tuple [a, b] k2 pt2) pos.line X.env = pure false := by rfl) : wS X (.Assign [.Tuple [.Name x px, .Name y py] kt' pt] (.Tuple [a, b] k2 pt2) pos) ρ μ E := fun F σ H hh sl D kt =>
  ss_of (ps_par hc hN hi hj hij hx hy pa_s hw hs) (h F σ H hh sl _ fun vs F1 H1 ds μ1 ⟨d1, d2, hd, q⟩ e1 hs1 r1 => by
    subst hd
    cases r1 with
    | cons r1 rr =>
      cases rr with
      | cons r2 rr =>
        cases rr
        exact ⟨_, _, rfl, kt.nx F1 H1 _ _ μ1 q e1 hs1 (((sl.mono e1).set i r1).set j r2)⟩)

/-! loops -/
theorem w_for {tg iter : Expr} {body : List Stmt} (h : wI X tg iter ρ μ fun its μ1 => ∃ Iv : Nat → Rho → Mu → Prop, Iv 0 ρ μ1 ∧
      (∀ i x ρ' μ', its[i]? = some x → Iv i ρ' μ' → wG X tg x ρ' μ' fun ρ2 μ2 => wSs X body ρ2 μ2 { nx := Iv (i + 1), rt := E.rt, bk := E.nx, ct := Iv (i + 1) }) ∧ (∀ ρ' μ', Iv its.length ρ' μ' → E.nx ρ' μ'))
    (hp : PassesOwn (model X.prog X.w) X.A X.env X.xe) (hc : X.calm = true) (hs : ∀ x, foldedSetIterable iter X.env x = pure x := by intro _; rfl) : wS X (.For tg iter body [] pos) ρ μ E := fun F σ H hh sl D kt =>
  ss_of (ps_for hp hc pi_s pg_s pss_s hs) (h F σ H hh sl _ fun J its F1 μ1 H1 ⟨Iv, h0, ht, hd⟩ e1 hs1 wk => by
    refine ⟨fun i m σ' H' => m = its.length - i ∧ i ≤ its.length ∧ ∃ F' ρ' μ', Ex F1 F' ∧ Hs X.K F' μ' H' ∧ Sl X.K F' ρ' σ' ∧ Iv i ρ' μ', ⟨its.length, by simp, Nat.zero_le _, F1, ρ, μ1, Ex.refl _, hs1, sl.mono e1, h0⟩, ?_⟩
    rintro i m σ' H' ⟨rfl, hi, F', ρ', μ', e2, hs2, sl2, iv⟩
    obtain ⟨w1, w2, w3⟩ := wk i F' μ' H' e2 hs2
    by_cases hlt : i < its.length
    · refine .inr ⟨w1 hlt, fun σ3 H3 => ∃ F3 ρ3 μ3, Ex F1 F3 ∧ Hs X.K F3 μ3 H3 ∧ Sl X.K F3 ρ3 σ3 ∧ Iv (i + 1) ρ3 μ3, fun σ3 H3 q => ⟨its.length - (i + 1), by omega, rfl, hlt, q⟩, fun x H3 hy => ?_⟩
      have hx : its[i]? = some its[i] := List.getElem?_eq_getElem hlt
      obtain ⟨F3, e3, hs3, r3⟩ := w3 x H3 _ hy hx
      refine ht i _ ρ' μ' hx iv F3 σ' H3 x hs3 (sl2.mono e3) r3 _ fun F4 H4 σ4 ρ4 μ4 q4 e4 hs4 sl4 => ?_
      have up : ∀ {F5 : Hp}, Ex F4 F5 → Ex F1 F5 := fun z => e2.trans (e3.trans (e4.trans z))
      refine q4 F4 σ4 H4 hs4 sl4 _ ⟨fun F5 H5 σ5 ρ5 μ5 q5 e5 hs5 sl5 => ⟨F5, ρ5, μ5, up e5, hs5, sl5, q5⟩, ?_, ?_, fun F5 H5 σ5 ρ5 μ5 q5 e5 hs5 sl5 => ⟨F5, ρ5, μ5, up e5, hs5, sl5, q5⟩⟩
      · exact kt.rt.mono (e1.trans (up (Ex.refl _)))
      · exact kt.nx.mono (e1.trans (up (Ex.refl _)))
    · have he : i = its.length := by omega
      subst he
      exact .inl ⟨w2 rfl, kt.nx F' H' σ' ρ' μ' (hd ρ' μ' iv) (e1.trans e2) hs2 sl2⟩)
theorem w_while {body : List Stmt} (Iv : Nat → Rho → Mu → Prop) (m0 : Nat) (h0 : Iv m0 ρ μ)
    (ht : ∀ m ρ' μ', Iv m ρ' μ' → wT X c ρ' μ' fun k μ1 => (k = true → wSs X body ρ' μ1 { nx := fun ρ2 μ2 => ∃ m', m' < m ∧ Iv m' ρ2 μ2, rt := E.rt, bk := E.nx, ct := fun ρ2 μ2 => ∃ m', m' < m ∧ Iv m' ρ2 μ2 }) ∧ (k = false → E.nx ρ' μ1))
    (hp : PassesOwn (model X.prog X.w) X.A X.env X.xe) : wS X (.While c body [] pos) ρ μ E := fun F σ H hh sl D kt =>
  ss_of (ps_while hp pt_s pss_s) (by
    refine ⟨fun m σ' H' => ∃ F' ρ' μ', Ex F F' ∧ Hs X.K F' μ' H' ∧ Sl X.K F' ρ' σ' ∧ Iv m ρ' μ', ⟨m0, F, ρ, μ, Ex.refl _, hh, sl, h0⟩, ?_⟩
    rintro m σ' H' ⟨F', ρ', μ', e2, hs2, sl2, iv⟩
    refine ht m ρ' μ' iv F' σ' H' hs2 sl2 _ fun k F3 H3 μ3 q e3 hs3 => ?_
    cases k with
    | true =>
      refine ⟨fun σ4 H4 => ∃ m', m' < m ∧ ∃ F4 ρ4 μ4, Ex F F4 ∧ Hs X.K F4 μ4 H4 ∧ Sl X.K F4 ρ4 σ4 ∧ Iv m' ρ4 μ4, fun σ4 H4 ⟨m', h1, h2⟩ => ⟨m', h1, h2⟩, ?_⟩
      refine q.1 rfl F3 σ' H3 hs3 (sl2.mono e3) _ ⟨fun F5 H5 σ5 ρ5 μ5 ⟨m', h1, h2⟩ e5 hs5 sl5 => ⟨m', h1, F5, ρ5, μ5, e2.trans (e3.trans e5), hs5, sl5, h2⟩, kt.rt.mono (e2.trans e3), kt.nx.mono (e2.trans e3), fun F5 H5 σ5 ρ5 μ5 ⟨m', h1, h2⟩ e5 hs5 sl5 => ⟨m', h1, F5, ρ5, μ5, e2.trans (e3.trans e5), hs5, sl5, h2⟩⟩
    | false => exact kt.nx F3 H3 σ' ρ' μ3 (q.2 rfl) (e2.trans e3) hs3 (sl2.mono e3))

/-! what is walked -/
theorem wi_lst {tg : Expr} {ΦI : List D → Mu → Prop} (h : wE X e ρ μ fun d μ1 => ∃ ds, d = .lst ds ∧ ΦI ds μ1) : wI X tg e ρ μ ΦI := fun F σ H hs sl R kt =>
  si_of (pi_list pe_s) (h F σ H hs sl _ fun v F1 H1 d μ1 ⟨ds, hd, q⟩ e1 hs1 r1 => by
    subst hd
    cases r1 with
    | lst g r =>
      rename_i a xs
      refine ⟨a, rfl, ⟨xs, Evl.ex_l hs1.ex (Evl.sq_of g)⟩, kt _ ds F1 μ1 H1 q e1 hs1 fun i F' μ' H' e' hs' => ?_⟩
      have g' : SqL X.K H' a xs := Evl.ex_l hs'.ex (Evl.ex_l e' (Evl.sq_of g))
      refine ⟨fun hi => ⟨xs, xs[i]'(by rw [r.length]; exact hi), g', List.getElem?_eq_getElem _⟩, fun hi => ⟨xs, g', by rw [r.length]; exact Nat.le_of_eq hi.symm⟩, fun x H2 d hy hd => ?_⟩
      obtain ⟨rfl, fy⟩ := hy
      obtain ⟨y, h1, h2⟩ := r.get hd
      cases (fy _ g').symm.trans h1
      exact ⟨F', Ex.refl _, hs', h2.mono e'⟩)
theorem wi_scr {tg : Expr} {ΦI : List D → Mu → Prop} (h : wE X e ρ μ fun d μ1 => ∃ ds, d = .scr ds ∧ ΦI ds μ1) : wI X tg e ρ μ ΦI := fun F σ H hs sl R kt =>
  si_of (pi_list pe_s) (h F σ H hs sl _ fun v F1 H1 d μ1 ⟨ds, hd, q⟩ e1 hs1 r1 => by
    subst hd
    cases r1 with
    | scr g r =>
      rename_i a xs
      refine ⟨a, rfl, ⟨xs, Evl.ex_l hs1.ex g⟩, kt _ ds F1 μ1 H1 q e1 hs1 fun i F' μ' H' e' hs' => ?_⟩
      have g' : SqL X.K H' a xs := Evl.ex_l hs'.ex (Evl.ex_l e' g)
      refine ⟨fun hi => ⟨xs, xs[i]'(by rw [r.length]; exact hi), g', List.getElem?_eq_getElem _⟩, fun hi => ⟨xs, g', by rw [r.length]; exact Nat.le_of_eq hi.symm⟩, fun x H2 d hy hd => ?_⟩
      obtain ⟨rfl, fy⟩ := hy
      obtain ⟨y, h1, h2⟩ := r.get hd
      cases (fy _ g').symm.trans h1
      exact ⟨F', Ex.refl _, hs', h2.mono e'⟩)
theorem wi_tup {tg : Expr} {ΦI : List D → Mu → Prop} (h : wE X e ρ μ fun d μ1 => ∃ ds, d = .tup ds ∧ ΦI ds μ1) : wI X tg e ρ μ ΦI := fun F σ H hs sl R kt =>
  si_of (pi_tup pe_s) (h F σ H hs sl _ fun v F1 H1 d μ1 ⟨ds, hd, q⟩ e1 hs1 r1 => by
    subst hd
    cases r1 with
    | tup g r =>
      rename_i a xs
      refine ⟨a, rfl, ⟨xs, Evl.ex_t hs1.ex g⟩, kt _ ds F1 μ1 H1 q e1 hs1 fun i F' μ' H' e' hs' => ?_⟩
      have g' : SqT X.K H' a xs := Evl.ex_t hs'.ex (Evl.ex_t e' g)
      refine ⟨fun hi => ⟨xs, xs[i]'(by rw [r.length]; exact hi), g', List.getElem?_eq_getElem _⟩, fun hi => ⟨xs, g', by rw [r.length]; exact Nat.le_of_eq hi.symm⟩, fun x H2 d hy hd => ?_⟩
      obtain ⟨rfl, fy⟩ := hy
      obtain ⟨y, h1, h2⟩ := r.get hd
      cases (fy _ g').symm.trans h1
      exact ⟨F', Ex.refl _, hs', h2.mono e'⟩)
/-- the numbers lo, lo + 1, .. -/
def rngD (lo : Int) (n : Nat) : List D := (List.range n).map fun i : Nat => D.int (lo + (i : Int))
theorem rngD_get {lo : Int} {n i : Nat} {d : D} (h : (rngD lo n)[i]? = some d) : i < n ∧ d = .int (lo + (i : Int)) := by
  unfold rngD at h
  rw [List.getElem?_map] at h
  by_cases hi : i < n
  · rw [List.getElem?_range hi] at h
    cases h
    exact ⟨hi, rfl⟩
  · rw [List.getElem?_eq_none (by rw [List.length_range]; omega)] at h
    cases h
theorem rngD_len {lo : Int} {n : Nat} : (rngD lo n).length = n := by unfold rngD; rw [List.length_map, List.length_range]
theorem wk_rng {K : PySem.W.Frag} {F : Hp} {lo : Int} {n : Nat} : Wk K F (Itr lo n) (rngD lo n) := fun i F' μ' H' e' hs' => by
  rw [rngD_len]
  refine ⟨fun hi => hi, fun hi => Nat.le_of_eq hi.symm, fun x H2 d hy hd => ?_⟩
  obtain ⟨rfl, rfl⟩ := hy
  obtain ⟨_, rfl⟩ := rngD_get hd
  exact ⟨F', Ex.refl _, hs', .int _⟩
theorem wi_rng1 {tg : Expr} {ΦI : List D → Mu → Prop} (hm : X.mg "range" = none) (h : wE X a ρ μ fun d μ1 => ∃ j : Int, d = .int j ∧ (0 ≤ j ∧ j ≤ 100000000) ∧ ΦI (rngD 0 j.toNat) μ1) (hg : Gl X "range" := by rfl) (hs : starEach [a] X.env = [(false, eval a X.env)] := by rfl) : wI X tg (.Call (.Name "range" p) [a] [] pos) ρ μ ΦI := fun F σ H hh sl R kt =>
  si_of (pi_range1 hg hm (pa_cons pe_s pa_nil hs) hs) (h F σ H hh sl _ fun v F1 H1 d μ1 ⟨j, hd, hj, q⟩ e1 hs1 r1 => by
    subst hd
    cases r1
    exact ⟨j, rfl, by omega, by omega, kt _ _ F1 μ1 H1 q e1 hs1 wk_rng⟩)
theorem wi_rng2 {tg : Expr} {ΦI : List D → Mu → Prop} (hm : X.mg "range" = none) (h : wE X a ρ μ fun d μ1 => wE X b ρ μ1 fun d' μ2 => ∃ i j : Int, d = .int i ∧ d' = .int j ∧ (-100000000 ≤ i ∧ i ≤ 100000000 ∧ -100000000 ≤ j ∧ j ≤ 100000000) ∧ ΦI (rngD i (j - i).toNat) μ2) (hg : Gl X "range" := by rfl)
    (hs : starEach [a, b] X.env = [(false, eval a X.env), (false, eval b X.env)] := by rfl) (hs2 : starEach [b] X.env = [(false, eval b X.env)] := by rfl) : wI X tg (.Call (.Name "range" p) [a, b] [] pos) ρ μ ΦI := fun F σ H hh sl R kt =>
  si_of (pi_range2 hg hm (pa_cons pe_s (pa_cons pe_s pa_nil hs2) (by rw [hs, hs2])) hs hs2) (h F σ H hh sl _ fun v F1 H1 d μ1 q1 e1 hs1 r1 => q1 F1 σ H1 hs1 (sl.mono e1) _ fun u F2 H2 d' μ2 ⟨i, j, hd, hd', hb, q⟩ e2 hs2' r2 => by
    subst hd
    subst hd'
    cases r1
    cases r2
    exact ⟨i, j, rfl, ⟨by omega, by omega, by omega, by omega⟩, kt _ _ F2 μ2 H2 q (e1.trans e2) hs2' wk_rng⟩)
theorem wi_str {tg : Expr} {ΦI : List D → Mu → Prop} (h : wE X e ρ μ fun d μ1 => ∃ z : Str, d = .str z ∧ ΦI (z.cps.toList.map fun c => .str ⟨#[c]⟩) μ1) : wI X tg e ρ μ ΦI := fun F σ H hs sl R kt =>
  si_of (pi_str pe_s) (h F σ H hs sl _ fun v F1 H1 d μ1 ⟨z, hd, q⟩ e1 hs1 r1 => by
    subst hd
    cases r1
    refine ⟨z, rfl, kt _ _ F1 μ1 H1 q e1 hs1 fun i F' μ' H' e' hs' => ?_⟩
    rw [List.length_map, Array.length_toList]
    refine ⟨fun hi => hi, fun hi => Nat.le_of_eq hi.symm, fun x H2 d hy hd => ?_⟩
    obtain ⟨rfl, c, hc, rfl⟩ := hy
    rw [List.getElem?_map, Array.getElem?_toList, hc] at hd
    cases hd
    exact ⟨F', Ex.refl _, hs', .str _⟩)
/-! enumerate of a text -/
def Ites (x : Str) : It := ⟨fun i _ => i < x.cps.size, fun i H v H' => ∃ T c, x.cps[i]? = some c ∧ v = .ref T ∧ H T = none ∧ H' = upd H T (.tup [.int (i : Nat), .str ⟨#[c]⟩]), fun i _ => i = x.cps.size⟩
theorem turn_enumS {P : Program} {w : World} {K : PySem.W.Frag} {elts : List Expr} {kk : Nat} {tpos : Pos} (x : Str) (t : Tok) (e it : Addr) (hne : e ≠ it) :
    Turn P w K (.Tuple elts kk tpos) (Ites x) [e, it] e (fun i h => (∃ old, IsEnum h e it (0 + (i : Int)) old) ∧ h.IsStrIter it (strIterType x) x t i) where
  mem := by simp
  obj := fun i h st b hb => by
    obtain ⟨⟨old, he⟩, ⟨o, ho, hc, hd⟩⟩ := st
    rcases List.mem_cons.mp hb with z | z
    · subst z; exact ⟨_, he, fun v q => nomatch q⟩
    · rcases List.mem_cons.mp z with z | z
      · subst z; exact ⟨o, ho, fun v q => by rw [hd] at q; cases q⟩
      · cases z
  keep := fun i h h' st k => by
    obtain ⟨⟨old, he⟩, ⟨o, ho, r⟩⟩ := st
    exact ⟨⟨old, k e (by simp) _ he⟩, ⟨o, k it (by simp) o ho, r⟩⟩
  item := by
    intro Y hP hw hK hc i pins s σ H E I hf st hg
    subst hP hw hK
    have G := GoesN.enumFrom (prog := Y.prog) (w := Y.w) (A := Y.A) (elts := elts) (x1 := kk) (pos := tpos) 0 (Draws.text (A := Y.A.in1) (I.ok.hd hc) it x t) e hne (by simpa using hne) (by simp)
    refine G.goes i s _ E hg st fun v h' tk hY st' hk htk => ?_
    obtain ⟨T, t', u, rfl, hT, ⟨c, t'', hcx, rfl⟩, hv⟩ := hY
    have new : ObjOk Y.prog Y.w (upd H T (.tup [.int (i : Nat), .str ⟨#[c]⟩])) h' T (.tup [.int (i : Nat), .str ⟨#[c]⟩]) :=
      ⟨by show 2 ≤ sizeLine; decide, [.int (0 + (i : Int)) t', .str ⟨#[c]⟩ t''], .cons ⟨t', by rw [Int.zero_add]⟩ (.cons ⟨_, rfl⟩ .nil), hv⟩
    have I1 := I.turnedNew (t' := tk) (ch := [e, it]) hk hf hT new
    refine ⟨.ref T, _, I1, rfl, ⟨T, c, hcx, rfl, I.hok.fresh hT, rfl⟩, st', fun b hb => ?_⟩
    have hlt : b < s.heap.objs.size := by
      obtain ⟨⟨old, he⟩, ⟨o, ho, _⟩⟩ := st
      rcases List.mem_cons.mp hb with z | z
      · subst z; exact Heap.lt_size he
      · rcases List.mem_cons.mp z with z | z
        · subst z; exact Heap.lt_size ho
        · cases z
    rw [upd_ne (Nat.ne_of_lt (Nat.lt_of_lt_of_le hlt hT))]
    exact (hf b hb).1
  done := by
    intro Y hP hw hK hc i pins s σ H E I hf st hg
    subst hP hw hK
    have hg' : i = x.cps.size := hg
    subst hg'
    have G := GoesN.enumFrom (prog := Y.prog) (w := Y.w) (A := Y.A) (elts := elts) (x1 := kk) (pos := tpos) 0 (Draws.text (A := Y.A.in1) (I.ok.hd hc) it x t) e hne (by simpa using hne) (by simp)
    refine G.stops s _ E st fun h' tk hk htk => ?_
    exact I.turnedL hk hf
  self := fun A i s Q E st h => let ⟨⟨_, he⟩, _⟩ := st; wpAny_pyIter_enum he h
end
section
variable {X : Cx} {e a b c elt tg iter : Expr} {es ifs : List Expr} {st : Stmt} {sts us : List Stmt} {ρ : Rho} {μ : Mu} {Φ : D → Mu → Prop} {ΦT : Bool → Mu → Prop} {ΦA : List D → Mu → Prop} {ΦS : Rho → Mu → Prop} {E : En} {pos p : Pos}
def iEnumS (ta : TA) : TI := fun σ H R => ta σ H fun vs H1 => ∃ x, vs = [.str x] ∧ R (Ites x) H1
theorem pi_enumS {ta : TA} {tpos : Pos} {elts : List Expr} {kk : Nat} (hg : Gl X "enumerate") (hm : X.mg "enumerate" = none) (ha : PA X [e] ta) (hs : starEach [e] X.env = [(false, eval e X.env)] := by rfl) : PI X (.Tuple elts kk tpos) (.Call (.Name "enumerate" p) [e] [] pos) (iEnumS ta) := by
  refine ⟨fun pins s σ H R I h => ?_⟩
  refine PyProof.Rows.Call_ (ld_blt I hg hm PyProof.Rows.boot_enumerate (PyProof.Rows.callWith_type1 (thn (ha.run pos pins s σ H _ I h) fun us s1 hq => ?_) hs rfl))
  obtain ⟨vs, H1, I1, r1, x, rfl, q⟩ := hq
  cases r1 with
  | cons r rr =>
    cases rr
    obtain ⟨t, rfl⟩ := r
    refine call_enumerate_str fun h' he hit hsz hk => wpAny_pyIter_enum he ?_
    have I2 : Inv X pins σ H1 { s1 with heap := h' } := I1.kept (t' := s1.toks) hk
    refine ⟨s1.heap.objs.size + 1, [s1.heap.objs.size + 1, s1.heap.objs.size], _, _, H1, rfl, I2, turn_enumS x t (s1.heap.objs.size + 1) s1.heap.objs.size (Nat.succ_ne_self _), ⟨⟨.none, he⟩, hit⟩, fun b hb => ?_, q⟩
    have hle : s1.heap.objs.size ≤ b := by
      rcases List.mem_cons.mp hb with z | z
      · rw [z]; exact Nat.le_succ _
      · rcases List.mem_cons.mp z with z | z
        · rw [z]; exact Nat.le_refl _
        · cases z
    exact I1.fpOk hle (I1.hok.fresh hle)
/-- the pairs of a place and a sign -/
def enumS (z : Str) : List D := (List.range z.cps.size).map fun i : Nat => .tup [.int i, .str ⟨#[z.cps.getD i 0]⟩]
theorem enumS_get {z : Str} {i : Nat} {d : D} (h : (enumS z)[i]? = some d) : ∃ c, z.cps[i]? = some c ∧ d = .tup [.int i, .str ⟨#[c]⟩] := by
  unfold enumS at h
  rw [List.getElem?_map] at h
  by_cases hi : i < z.cps.size
  · rw [List.getElem?_range hi] at h
    cases h
    refine ⟨z.cps[i], Array.getElem?_eq_getElem hi, ?_⟩
    simp [hi]
  · rw [List.getElem?_eq_none (by rw [List.length_range]; omega)] at h
    cases h
theorem enumS_len {z : Str} : (enumS z).length = z.cps.size := by unfold enumS; rw [List.length_map, List.length_range]
theorem wi_enumS {tpos : Pos} {elts : List Expr} {kk : Nat} {ΦI : List D → Mu → Prop} (hm : X.mg "enumerate" = none) (h : wE X e ρ μ fun d μ1 => ∃ z : Str, d = .str z ∧ ΦI (enumS z) μ1) (hg : Gl X "enumerate" := by rfl) (hs : starEach [e] X.env = [(false, eval e X.env)] := by rfl) : wI X (.Tuple elts kk tpos) (.Call (.Name "enumerate" p) [e] [] pos) ρ μ ΦI := fun F σ H hh sl R kt =>
  si_of (pi_enumS hg hm (pa_cons pe_s pa_nil hs) hs) (h F σ H hh sl _ fun v F1 H1 d μ1 ⟨z, hd, q⟩ e1 hs1 r1 => by
    subst hd
    cases r1
    refine ⟨z, rfl, kt _ _ F1 μ1 H1 q e1 hs1 fun i F' μ' H' e' hs' => ?_⟩
    rw [enumS_len]
    refine ⟨fun hi => hi, fun hi => hi, fun x H2 d hy hd => ?_⟩
    · obtain ⟨T, c, hc, rfl, hT, rfl⟩ := hy
      obtain ⟨c', hc', rfl⟩ := enumS_get hd
      cases hc.symm.trans hc'
      obtain ⟨g1, g2⟩ := hs'.laid (u := .tup [.int (i : Nat), .str ⟨#[c]⟩]) hT
      exact ⟨_, g2, g1, .tup (.inl (.inl upd_same)) (.cons (.int _) (.cons (.str _) .nil))⟩)

/-! comprehensions -/
def wipeR (ρ : Rho) : List Nat → Rho
  | [] => ρ
  | v :: vs => (wipeR ρ vs).set v none
theorem Sl.wipeL {K : PySem.W.Frag} {F : Hp} {ρ : Rho} {σ : L2.St} (s : Sl K F ρ σ) : ∀ vs : List Nat, Sl K F (wipeR ρ vs) (L2.wipe σ vs)
  | [] => s
  | v :: vs => (s.wipeL vs).wipe v
theorem wipe_get {σ : L2.St} : ∀ (vs : List Nat) (k : Nat), (wipe σ vs)[k]? = if k ∈ vs then σ[k]?.map (fun _ => none) else σ[k]?
  | [], k => by simp [wipe]
  | v :: vs, k => by
    unfold wipe
    rw [List.getElem?_set]
    have ih := wipe_get (σ := σ) vs k
    by_cases hk : v = k
    · subst hk
      rw [if_pos rfl, if_pos List.mem_cons_self, wipe_length]
      by_cases hl : v < σ.length
      · rw [if_pos hl, List.getElem?_eq_getElem hl]; rfl
      · rw [if_neg hl, List.getElem?_eq_none (by omega)]; rfl
    · rw [if_neg hk, ih]
      have : (k ∈ v :: vs) = (k ∈ vs) := by simp [List.mem_cons, Ne.symm hk]
      simp [this]
theorem wipe_setw {σ σ1 : L2.St} {vs : List Nat} {j : Nat} {x : Option V} (h : j ∈ vs) (e : wipe σ1 vs = wipe σ vs) : wipe (σ1.set j x) vs = wipe σ vs := by
  rw [← e]
  apply List.ext_getElem?
  intro k
  rw [wipe_get, wipe_get, List.getElem?_set]
  by_cases hk : k ∈ vs
  · rw [if_pos hk, if_pos hk]
    by_cases hj : j = k
    · subst hj
      rw [if_pos rfl]
      by_cases hl : j < σ1.length
      · rw [if_pos hl, List.getElem?_eq_getElem hl]; rfl
      · rw [if_neg hl, List.getElem?_eq_none (by omega)]
    · rw [if_neg hj]
  · have hj : j ≠ k := fun z => hk (z ▸ h)
    rw [if_neg hk, if_neg hk, if_neg hj]
theorem wipe_idem {σ : L2.St} {vs : List Nat} : wipe (wipe σ vs) vs = wipe σ vs := by
  apply List.ext_getElem?
  intro k
  rw [wipe_get, wipe_get]
  by_cases hk : k ∈ vs
  · rw [if_pos hk, if_pos hk]; cases σ[k]? <;> rfl
  · rw [if_neg hk, if_neg hk]
/-- the tests of a clause -/
def wTs (X : Cx) (ifs : List Expr) (ρ : Rho) (μ : Mu) (ΦT : Bool → Mu → Prop) : Prop := match ifs with
  | [] => ΦT true μ
  | [c] => wT X c ρ μ ΦT
  | _ => False
def sTs (X : Cx) (ifs : List Expr) : TT := fun σ H Q => ∀ (pins : List (Addr × Obj)) (s : Shared), Inv X pins σ H s →
    wpAny (model X.prog X.w) X.A (forIn ifs true fun c r => if r = true then do let ok ← isTrue c X.env (eval c X.env); pure (ForInStep.yield ok) else pure (ForInStep.yield r)) (TP X pins σ Q) X.xe s
theorem pts_s {ifs : List Expr} : PTs X ifs (sTs X ifs) := ⟨fun pins s σ H Q I h => h pins s I⟩
theorem sts_of {t : TT} (p : PTs X ifs t) {σ : L2.St} {H : Hp} {Q : Bool → Hp → Prop} (h : t σ H Q) : sTs X ifs σ H Q := fun pins s I => p.run pins s σ H Q I h
theorem wTs.go (h : wTs X ifs ρ μ ΦT) {F : Hp} {σ : L2.St} {H : Hp} (hs : Hs X.K F μ H) (sl : Sl X.K F ρ σ) {Q : Bool → Hp → Prop} (kt : KontT X.K F ΦT Q) : sTs X ifs σ H Q := by
  match ifs, h with
  | [], h => exact sts_of pts_nil (kt true F H μ h (Ex.refl F) hs)
  | [c], h => exact sts_of (pts_one pt_s) (h F σ H hs sl Q kt)
/-- the targets of a comprehension: a name, or a tuple of names, by their places -/
inductive Tg where
  | one (j : Nat) | two (j k : Nat) | tree (j k l : Nat)
def Tg.slots : Tg → List Nat
  | .one j => [j]
  | .two j k => [j, k]
  | .tree j k l => [j, k, l]
def Tg.put : Tg → D → Rho → Option Rho
  | .one j, d, ρ => some (ρ.set j (some d))
  | .two j k, .tup [d, e], ρ => some ((ρ.set j (some d)).set k (some e))
  | .tree j k l, .tup [d, e, f], ρ => some (((ρ.set j (some d)).set k (some e)).set l (some f))
  | _, _, _ => none
def Tg.g (K : PySem.W.Frag) : Tg → TG
  | .one j => gName j
  | .two j k => gTup K 2 (gCons (gName j) (gCons (gName k) gNil))
  | .tree j k l => gTup K 3 (gCons (gName j) (gCons (gName k) (gCons (gName l) gNil)))
/-- the contexts of a block -/
abbrev blkE (X : Cx) (scope : Scope) (s : Shared) (H : Hp) (C : Addr) (cl : List (Str × Addr)) (fp : List Addr) : Cx := X.blk s H scope (compEnvC scope cl C X.env) fp
theorem Tg.run {t : Tg} {K : PySem.W.Frag} {F : Hp} {v : V} {d : D} {ρ ρ' : Rho} {σ : L2.St} {μ : Mu} {H : Hp} {vs : List Nat} {Q : L2.St → Hp → Prop} (hs : Hs K F μ H) (sl : Sl K F (wipeR ρ vs) (wipe σ vs)) (r : Rep K F v d) (hv : ∀ j ∈ t.slots, j ∈ vs) (hp : t.put d (wipeR ρ vs) = some ρ')
    (k : ∀ σ', wipe σ' vs = wipe σ vs → Sl K F ρ' σ' → Q σ' H) : t.g K v (wipe σ vs) H Q := by
  match t, d, hp with
  | .one j, d, hp =>
    cases hp
    exact k _ (wipe_setw (hv j (by simp [Tg.slots])) wipe_idem) (sl.set j r)
  | .two i j, .tup [d, e], hp =>
    cases hp
    cases r with
    | tup g r =>
      cases r with
      | cons r1 r =>
        cases r with
        | cons r2 r =>
          cases r
          exact ⟨_, _, rfl, Evl.ex_t hs.ex g, rfl, _, _, rfl, _, _, rfl, rfl, k _ (wipe_setw (hv j (by simp [Tg.slots])) (wipe_setw (hv i (by simp [Tg.slots])) wipe_idem)) ((sl.set i r1).set j r2)⟩
  | .tree i j l, .tup [d, e, f], hp =>
    cases hp
    cases r with
    | tup g r =>
      cases r with
      | cons r1 r =>
        cases r with
        | cons r2 r =>
          cases r with
          | cons r3 r =>
            cases r
            exact ⟨_, _, rfl, Evl.ex_t hs.ex g, rfl, _, _, rfl, _, _, rfl, _, _, rfl, rfl, k _ (wipe_setw (hv l (by simp [Tg.slots])) (wipe_setw (hv j (by simp [Tg.slots])) (wipe_setw (hv i (by simp [Tg.slots])) wipe_idem))) (((sl.set i r1).set j r2).set l r3)⟩
/-- [elt for tg in iter if ..]: Iv speaks of the turn, the list so far, the cells; the new list's cell p stands ahead of them -/
def LcW (X : Cx) (elt tg iter : Expr) (ifs : List Expr) (scope : Scope) (t : Tg) (vs : List Nat) (ρ : Rho) (μ : Mu) (Φ : D → Mu → Prop) : Prop :=
  wI X tg iter ρ μ fun its μ1 => its.length ≤ 1000000 ∧ ∃ Iv : Nat → List D → Mu → Prop, Iv 0 [] μ1 ∧
    (∀ p i x acc μ2, its[i]? = some x → Iv i acc μ2 → ∃ ρ', t.put x (wipeR ρ vs) = some ρ' ∧ ∀ s H C cl fp, wTs (blkE X scope s H C cl fp) ifs ρ' ((p, .lst acc) :: μ2) fun k μ4 =>
      (k = true → ∀ s H C cl fp, wE (blkE X scope s H C cl fp) elt ρ' μ4 fun d μ5 => ∃ μ6, μ5 = (p, .lst acc) :: μ6 ∧ Iv (i + 1) (acc ++ [d]) μ6) ∧ (k = false → ∃ μ6, μ4 = (p, .lst acc) :: μ6 ∧ Iv (i + 1) acc μ6)) ∧
    (∀ p acc μ2, Iv its.length acc μ2 → Φ (.ptr p) ((p, .lst acc) :: μ2))
def sTsF (X : Cx) (scope : Scope) (ifs : List Expr) : TT := fun σ H Q => ∀ s H' C cl fp, sTs (blkE X scope s H' C cl fp) ifs σ H Q
def sEF (X : Cx) (scope : Scope) (elt : Expr) : TE := fun σ H Q => ∀ s H' C cl fp, sE (blkE X scope s H' C cl fp) elt σ H Q
theorem lc_t {scope : Scope} {t : Tg} {vs : List Nat} (hv : ∀ j ∈ t.slots, j ∈ vs) (h : LcW X elt tg iter ifs scope t vs ρ μ Φ) {F : Hp} {σ : L2.St} {H : Hp} (hs : Hs X.K F μ H) (sl : Sl X.K F ρ σ) {Q : VK} (kt : Kont X.K F Φ Q) :
    tLc (sI X tg iter) (t.g X.K) (sTsF X scope ifs) (sEF X scope elt) vs σ H Q := by
  refine h F σ H hs sl _ fun J its F1 μ1 H1 ⟨hz, Iv, h0, ht, hd⟩ e1 hs1 wk Dl hD => ?_
  refine ⟨fun i m H' => m = its.length - i ∧ i ≤ its.length ∧ ∃ F' acc μ', Ex F1 F' ∧ Hs X.K F' ((Dl, .lst acc) :: μ') H' ∧ acc.length ≤ i ∧ Iv i acc μ', ⟨its.length, by simp, Nat.zero_le _, F1, [], μ1, Ex.refl _, hs1.cell hD (.lst .nil), Nat.le_refl _, h0⟩, ?_⟩
  rintro i m H' ⟨rfl, hi, F', acc, μ', e2, hs2, hl, iv⟩
  obtain ⟨w1, w2, w3⟩ := wk i F' _ H' e2 hs2
  by_cases hlt : i < its.length
  · refine .inr ⟨w1 hlt, fun H3 => ∃ F3 acc3 μ3, Ex F1 F3 ∧ Hs X.K F3 ((Dl, .lst acc3) :: μ3) H3 ∧ acc3.length ≤ i + 1 ∧ Iv (i + 1) acc3 μ3, fun H3 q => ⟨its.length - (i + 1), by omega, rfl, hlt, q⟩, fun x H3 hy => ?_⟩
    have hx : its[i]? = some its[i] := List.getElem?_eq_getElem hlt
    obtain ⟨F3, e3, hs3, r3⟩ := w3 x H3 _ hy hx
    obtain ⟨ρ', hp, ht⟩ := ht Dl i _ acc μ' hx iv
    refine Tg.run hs3 ((sl.mono (e1.trans (e2.trans e3))).wipeL vs) r3 hv hp fun σ' hw sl' => ⟨hw, fun s' H' C cl fp => ?_⟩
    refine (ht s' H' C cl fp).go hs3 sl' fun k F4 H4 μ4 q4 e4 hs4 => ?_
    cases k with
    | true =>
      rw [if_pos rfl]
      refine fun s' H' C cl fp => q4.1 rfl s' H' C cl fp F4 σ' H4 hs4 (sl'.mono e4) _ fun v F5 H5 d μ5 ⟨μ6, h6, iv6⟩ e5 hs5 r5 => ?_
      subst h6
      obtain ⟨xs, hx5, rx5⟩ := hs5.lst (i := 0) rfl
      refine ⟨xs, hx5, Nat.lt_of_le_of_lt ?_ (show 1000000 < sizeLine by decide), F5, acc ++ [d], μ6, e2.trans (e3.trans (e4.trans e5)), hs5.write (i := 0) rfl (.lst (rx5.append (.one r5))), ?_, iv6⟩
      · rw [rx5.length]
        omega
      · rw [List.length_append]
        exact Nat.succ_le_succ hl
    | false =>
      rw [if_neg Bool.false_ne_true]
      obtain ⟨μ6, h6, iv6⟩ := q4.2 rfl
      subst h6
      exact ⟨F4, acc, μ6, e2.trans (e3.trans e4), hs4, Nat.le_succ_of_le hl, iv6⟩
  · have he : i = its.length := by omega
    subst he
    exact .inl ⟨w2 rfl, kt _ F' H' _ _ (hd Dl acc μ' iv) (e1.trans e2) hs2 (.ptr Dl)⟩
theorem w_lcM {scope : Scope} {own : List (Str × Nat)} (t : Tg) (hv : ∀ j ∈ t.slots, j ∈ own.map (·.2)) (hc : X.calm = true) (hN : X.N.Nodup) (ok : BlkOk X.N X.env.scope scope own)
    (hg : ∀ s H C cl fp, PG (blkE X scope s H C cl fp) tg (t.g X.K)) (h : LcW X elt tg iter ifs scope t (own.map (·.2)) ρ μ Φ) (hs : ∀ x, foldedSetIterable iter X.env x = pure x := by intro _; rfl) :
    wE X (.ListComp elt [⟨tg, iter, ifs, 0⟩] scope pos) ρ μ Φ := fun F σ H hh sl Q kt =>
  se_of (pe_lc hc hN pi_s ok hg (fun s H C cl fp => ⟨fun pins s' σ H Q I q => q s _ C cl fp pins s' I⟩) (fun s H C cl fp => ⟨fun pins s' σ H Q I q => q s _ C cl fp pins s' I⟩) hs) (lc_t hv h hh sl kt)
theorem w_setLc {scope : Scope} {own : List (Str × Nat)} (i : Nat) {y : Str} {py spos : Pos} (t : Tg) (hv : ∀ j ∈ t.slots, j ∈ own.map (·.2)) (hc : X.calm = true) (hN : X.N.Nodup) (hy : X.N[i]? = some y) (hyl : X.env.scope.names.lookup y = some .local) (ok : BlkOk X.N X.env.scope scope own)
    (hsw : swapsWith (.ListComp elt [⟨tg, iter, ifs, 0⟩] scope pos) (some (.Name y py)) spos.line X.env = pure true)
    (hg : ∀ s H C cl fp, PG (blkE X scope s H C cl fp) tg (t.g X.K)) (h : LcW X elt tg iter ifs scope t (own.map (·.2)) ρ μ fun d μ1 => ∃ p acc μ2, d = .ptr p ∧ μ1 = (p, .lst acc) :: μ2 ∧ (E.nx (ρ.set i (some (.lst acc))) μ2 ∨ E.nx (ρ.set i (some (.ptr p))) ((p, .lst acc) :: μ2)))
    (hs : ∀ x, foldedSetIterable iter X.env x = pure x := by intro _; rfl) :
    wS X (.Assign [.Name y py] (.ListComp elt [⟨tg, iter, ifs, 0⟩] scope pos) spos) ρ μ E := fun F σ H hh sl D kt =>
  ss_of (ps_setLc hc hN hy hyl hsw pi_s ok hg (fun s H C cl fp => ⟨fun pins s' σ H Q I q => q s _ C cl fp pins s' I⟩) (fun s H C cl fp => ⟨fun pins s' σ H Q I q => q s _ C cl fp pins s' I⟩) hs)
    (lc_t hv h hh sl (Q := fun x H1 => gName i x σ H1 D.nx) fun v F1 H1 d μ1 ⟨p, acc, μ2, hd, hm, q⟩ e1 hs1 r1 => by
      subst hd
      subst hm
      cases r1
      rcases q with q | q
      · obtain ⟨F2, e2, hs2, r2⟩ := hs1.freeze (i := 0) rfl
        exact kt.nx F2 H1 _ _ _ q (e1.trans e2) hs2 ((sl.mono (e1.trans e2)).set i r2)
      · exact kt.nx F1 H1 _ _ _ q e1 hs1 ((sl.mono e1).set i (.ptr p)))

/-! a def keeps its promise -/
end
section
variable {P : Program} {w : World} {K : PySem.W.Frag} {mg : Str → Option Value} {base : Heap}
def rho (N : List Str) (ds : List D) : Rho := ds.map some ++ List.replicate (N.length - ds.length) none
theorem sl_start {F : Hp} {N : List Str} {vs : List V} {ds : List D} (r : Reps K F vs ds) : Sl K F (rho N ds) (L2.start N vs) := by
  have hl := r.length
  refine ⟨?_, fun i d h => ?_⟩
  · unfold rho L2.start
    rw [List.length_append, List.length_append, List.length_map, List.length_map, List.length_replicate, List.length_replicate, hl]
  · unfold rho at h
    by_cases hi : i < ds.length
    · rw [List.getElem?_append_left (by rw [List.length_map]; exact hi), List.getElem?_map] at h
      cases e : ds[i]? with
      | none => rw [e] at h; cases h
      | some x =>
        rw [e] at h
        cases h
        obtain ⟨v, h1, h2⟩ := r.get e
        refine ⟨v, ?_, h2⟩
        unfold L2.start
        rw [List.getElem?_append_left (by rw [List.length_map, hl]; exact hi), List.getElem?_map, h1]
        rfl
    · rw [List.getElem?_append_right (by rw [List.length_map]; omega), List.getElem?_replicate] at h
      split at h <;> cases h
theorem fn_ok {x qual : Str} {st : Stmt} {f : Addr} {fd : FuncData} {N ps : List Str} {k : Nat} {S : FS} (F : Fun K x qual st f fd) (Sc : FnScope N ps (defScope st)) (len : ∀ ds μ Φ, S ds μ Φ → ds.length = ps.length)
    (body : ∀ (cdv : Value) (A : Around) (outer : List Env) (s : Shared) (H : Hp) (E : XK), Room k (A.deeper (PyProof.Rows.envOfC qual (defScope st) s.heap.objs.size f cdv)) → ∀ ds μ Φ, S ds μ Φ →
      wSs (cxOf CX0 P w K mg base N qual (defScope st) f cdv A outer s H E).nox (defBody st) (rho N ds) μ { nx := fun _ μ' => Φ .non μ', rt := Φ }) : FnOk P w K mg base CX0 (k + 1) f fd ps (spD K S) := by
  refine F.ok Sc (fun vs H Q E h => ?_) (fun cdv A outer s H vs Q E hr h => ?_)
  · obtain ⟨F', ds, μ, Φ, _, r, h, _⟩ := h
    rw [r.length]; exact len _ _ _ h
  · obtain ⟨F', ds, μ, Φ, hs, r, h, kt⟩ := h
    exact ⟨_, pss_s, body cdv A outer s H E hr ds μ Φ h F' (L2.start N vs) H hs (sl_start r) _ ⟨fun F1 H1 σ1 ρ1 μ1 q e1 hs1 sl1 => kt .non F1 H1 .non μ1 q e1 hs1 .non, kt, fun F1 H1 σ1 ρ1 μ1 q => False.elim q, fun F1 H1 σ1 ρ1 μ1 q => False.elim q⟩⟩
end
end Oc

/-! Own layer, part 3: operations. -/
namespace Oc
open PySem PySem.Spec L2
open Evl (Ex)
theorem Kont.now {K : PySem.W.Frag} {F : Hp} {Φ : D → Mu → Prop} {Q : VK} (kt : Kont K F Φ Q) {v : V} {H : Hp} {d : D} {μ : Mu} (k : Φ d μ) (hs : Hs K F μ H) (r : Rep K F v d) : Q v H := kt v F H d μ k (Ex.refl F) hs r
/-- flat data -/
def D.fl : D → Option V
  | .non => some .non
  | .bl b => some (.bl b)
  | .int i => some (.int i)
  | .str x => some (.str x)
  | _ => none
theorem rep_fl {K : PySem.W.Frag} {F : Hp} {v w : V} {d : D} (r : Rep K F v d) (h : d.fl = some w) : v = w := by
  cases r <;> first | (cases h; rfl) | cases h
def D.fls : List D → Option (List V)
  | [] => some []
  | d :: ds => match d.fl, D.fls ds with
    | some v, some vs => some (v :: vs)
    | _, _ => none
theorem rep_fls {K : PySem.W.Frag} {F : Hp} : ∀ {ds : List D} {vs ws : List V}, Reps K F vs ds → D.fls ds = some ws → vs = ws
  | [], _, _, .nil, h => by cases h; rfl
  | d :: ds, _, ws, .cons r rr, h => by
    unfold D.fls at h
    split at h
    · rename_i v vs h1 h2
      cases h
      rw [rep_fl r h1, rep_fls rr h2]
    · cases h
theorem fl_flat {d : D} {v : V} (h : d.fl = some v) : flatV v = true := by
  cases d <;> first | (cases h; rfl) | cases h
theorem fls_flat : ∀ {ds : List D} {vs : List V}, D.fls ds = some vs → vs.all flatV = true
  | [], _, h => by cases h; rfl
  | d :: ds, ws, h => by
    unfold D.fls at h
    split at h
    · rename_i v vs h1 h2
      cases h
      rw [List.all_cons, fl_flat h1, fls_flat h2]
      rfl
    · cases h
theorem fls_ints : ∀ ns : List Int, D.fls (ns.map D.int) = some (ns.map V.int)
  | [] => rfl
  | n :: ns => by
    show (match D.fl (.int n), D.fls (ns.map D.int) with | some v, some vs => some (v :: vs) | _, _ => none) = _
    rw [fls_ints ns]
    rfl
theorem fls_strs : ∀ ns : List Str, D.fls (ns.map D.str) = some (ns.map V.str)
  | [] => rfl
  | n :: ns => by
    show (match D.fl (.str n), D.fls (ns.map D.str) with | some v, some vs => some (v :: vs) | _, _ => none) = _
    rw [fls_strs ns]
    rfl
section
variable {X : Cx} {e a b c o : Expr} {es : List Expr} {ρ : Rho} {μ : Mu} {Φ : D → Mu → Prop} {d d1 d2 : D} {i j : Int} {x y : Str} {pos p : Pos} {f : Value → Value → Sem Value} {r : R2}
theorem wop_of (ho : OpR X f r) (h : ∀ F H x y, Hs X.K F μ H → Rep X.K F x d1 → Rep X.K F y d2 → ∀ Q, Kont X.K F Φ Q → r x y H Q) : wOp X f d1 d2 μ Φ := fun F H x y hs r1 r2 Q kt pins s σ v u I rv ru => ho pins s σ H x y v u Q I rv ru (h F H x y hs r1 r2 Q kt)
theorem wopI {C : Int → Int → Prop} {g : Int → Int → V} {d : D} (ho : OpR X f (rI C g)) (hc : C i j) (hg : ∀ K F, Rep K F (g i j) d) (k : Φ d μ) : wOp X f (.int i) (.int j) μ Φ := wop_of ho fun F H x y hs r1 r2 Q kt => by
  cases r1; cases r2
  exact ⟨i, j, rfl, rfl, hc, kt.now k hs (hg _ _)⟩
theorem wopI0 {g : Int → Int → V} {d : D} (ho : OpR X f (rI0 g)) (hg : ∀ K F, Rep K F (g i j) d) (k : Φ d μ) : wOp X f (.int i) (.int j) μ Φ := wop_of ho fun F H x y hs r1 r2 Q kt => by
  cases r1; cases r2
  exact ⟨i, j, rfl, rfl, kt.now k hs (hg _ _)⟩
theorem o_add (k : Φ (.int (i + j)) μ) : wOp X (binaryOp .Add) (.int i) (.int j) μ Φ := wopI0 op_add (fun _ _ => .int _) k
theorem o_sub (k : Φ (.int (i - j)) μ) : wOp X (binaryOp .Sub) (.int i) (.int j) μ Φ := wopI0 op_sub (fun _ _ => .int _) k
theorem o_mul (hc : (-(2 ^ 64) < i ∧ i < 2 ^ 64) ∨ (-(2 ^ 64) < j ∧ j < 2 ^ 64)) (k : Φ (.int (i * j)) μ) : wOp X (binaryOp .Mult) (.int i) (.int j) μ Φ := wopI op_mul hc (fun _ _ => .int _) k
theorem o_mod (hc : 0 < j) (k : Φ (.int (i % j)) μ) : wOp X (binaryOp .Mod) (.int i) (.int j) μ Φ := wopI op_mod hc (fun _ _ => .int _) k
theorem o_div (hc : 0 < j ∧ j < 1073741824) (k : Φ (.int (i / j)) μ) : wOp X (binaryOp .FloorDiv) (.int i) (.int j) μ Φ := wopI op_fdiv hc (fun _ _ => .int _) k
theorem o_pow (hc : 0 ≤ j ∧ j ≤ 1000000 ∧ i.natAbs < 2 ^ 64) (k : Φ (.int (i ^ j.toNat)) μ) : wOp X (binaryOp .Pow) (.int i) (.int j) μ Φ := wopI op_pow hc (fun _ _ => .int _) k
theorem o_shl (hc : 0 ≤ j ∧ j ≤ 1000000 ∧ i.natAbs < 2 ^ 64) (k : Φ (.int (i * 2 ^ j.toNat)) μ) : wOp X (binaryOp .LShift) (.int i) (.int j) μ Φ := wopI op_shl hc (fun _ _ => .int _) k
theorem o_shr (hc : 0 ≤ j) (k : Φ (.int (i / 2 ^ j.toNat)) μ) : wOp X (binaryOp .RShift) (.int i) (.int j) μ Φ := wopI op_shr hc (fun _ _ => .int _) k
theorem o_band (k : Φ (.int (Builtin.bitAnd i j)) μ) : wOp X (binaryOp .BitAnd) (.int i) (.int j) μ Φ := wopI0 op_and (fun _ _ => .int _) k
theorem o_bor (k : Φ (.int (Builtin.bitOr i j)) μ) : wOp X (binaryOp .BitOr) (.int i) (.int j) μ Φ := wopI0 op_or (fun _ _ => .int _) k
theorem o_bxor (k : Φ (.int (Builtin.bitXor i j)) μ) : wOp X (binaryOp .BitXor) (.int i) (.int j) μ Φ := wopI0 op_xor (fun _ _ => .int _) k
theorem o_addS (hc : x.length + y.length ≤ sizeLine) (k : Φ (.str (x ++ y)) μ) : wOp X (binaryOp .Add) (.str x) (.str y) μ Φ := wop_of op_add_str fun F H _ _ hs r1 r2 Q kt => by
  cases r1; cases r2
  exact ⟨x, y, rfl, rfl, hc, kt.now k hs (.str _)⟩
theorem o_addT {xs ys : List D} (hc : xs.length + ys.length ≤ 1000000) (k : Φ (.tup (xs ++ ys)) μ) : wOp X (binaryOp .Add) (.tup xs) (.tup ys) μ Φ := wop_of op_catA fun F H _ _ hs r1 r2 Q kt => by
  cases r1 with
  | tup g1 q1 =>
    cases r2 with
    | tup g2 q2 =>
      have l1 := q1.length
      have l2 := q2.length
      refine ⟨_, _, _, _, rfl, rfl, Evl.ex_t hs.ex g1, Evl.ex_t hs.ex g2, Nat.le_trans (by omega) (show 1000000 ≤ sizeLine by decide), fun h => ?_, fun h1 h2 => ?_, fun h1 h2 p hp => ?_⟩
      · subst h
        cases q1
        exact kt.now k hs (.tup g2 q2)
      · subst h2
        cases q2
        rw [List.append_nil] at k
        exact kt.now k hs (.tup g1 q1)
      · obtain ⟨s1, s2⟩ := hs.laid (u := .tup _) hp
        exact kt _ _ _ _ _ k s2 s1 (.tup (.inl (.inl upd_same)) ((q1.append q2).mono s2))
/-- two lists that stand still -/
theorem o_addL {xs ys : List D} (hc : xs.length + ys.length ≤ 1000000) (k : Φ (.lst (xs ++ ys)) μ) : wOp X (binaryOp .Add) (.lst xs) (.lst ys) μ Φ := wop_of op_cat fun F H _ _ hs r1 r2 Q kt => by
  cases r1 with
  | lst g1 q1 =>
    cases r2 with
    | lst g2 q2 =>
      have l1 := q1.length
      have l2 := q2.length
      refine ⟨_, _, _, _, rfl, rfl, hs.ex _ _ g1, hs.ex _ _ g2, Nat.le_trans (by omega) (show 1000000 ≤ sizeLine by decide), fun p hp => ?_⟩
      obtain ⟨s1, s2⟩ := hs.laid (u := .lst _) hp
      exact kt _ _ _ _ _ k s2 s1 (.lst upd_same ((q1.append q2).mono s2))
/-! comparisons -/
theorem o_lt (k : Φ (.bl (decide (i < j))) μ) : wOp X (compareOp .Lt) (.int i) (.int j) μ Φ := wopI0 op_lt (fun _ _ => .bl _) k
theorem o_le (k : Φ (.bl (decide (i ≤ j))) μ) : wOp X (compareOp .LtE) (.int i) (.int j) μ Φ := wopI0 op_le (fun _ _ => .bl _) k
theorem o_gt (k : Φ (.bl (decide (j < i))) μ) : wOp X (compareOp .Gt) (.int i) (.int j) μ Φ := wopI0 op_gt (fun _ _ => .bl _) k
theorem o_ge (k : Φ (.bl (decide (j ≤ i))) μ) : wOp X (compareOp .GtE) (.int i) (.int j) μ Φ := wopI0 op_ge (fun _ _ => .bl _) k
/-- == of flat data -/
def D.eqf : D → D → Bool
  | .non, .non => true
  | .bl a, .bl b => a == b
  | .int a, .int b => a == b
  | .str a, .str b => a == b
  | _, _ => false
def D.scal : D → D → Bool
  | .non, .non => true | .non, .int _ => true | .int _, .non => true | .non, .bl _ => true | .bl _, .non => true | .non, .str _ => true | .str _, .non => true
  | .int _, .int _ => true | .bl _, .bl _ => true | .str _, .str _ => true
  | .int _, .str _ => true | .str _, .int _ => true | .bl _, .str _ => true | .str _, .bl _ => true
  | _, _ => false
theorem scal_eq {K : PySem.W.Frag} {F : Hp} {u v : V} (r1 : Rep K F u d1) (r2 : Rep K F v d2) (h : D.scal d1 d2 = true) : scal u v = true ∧ decide (u = v) = D.eqf d1 d2 := by
  cases r1 <;> cases r2 <;> first
    | (refine ⟨by rfl, ?_⟩; simp [D.eqf]; done)
    | (refine ⟨by rfl, ?_⟩; rw [Bool.eq_iff_iff]; simp [D.eqf]; done)
    | (exfalso; simp [D.scal] at h; done)
theorem o_eq (h : D.scal d1 d2 = true) (k : Φ (.bl (D.eqf d1 d2)) μ) : wOp X (compareOp .Eq) d1 d2 μ Φ := wop_of op_eq fun F H u v hs r1 r2 Q kt => by
  obtain ⟨h1, h2⟩ := scal_eq r1 r2 h
  refine ⟨h1, ?_⟩
  rw [h2]
  exact kt.now k hs (.bl _)
theorem o_ne (h : D.scal d1 d2 = true) (k : Φ (.bl (!D.eqf d1 d2)) μ) : wOp X (compareOp .NotEq) d1 d2 μ Φ := wop_of op_ne fun F H u v hs r1 r2 Q kt => by
  obtain ⟨h1, h2⟩ := scal_eq r1 r2 h
  refine ⟨h1, ?_⟩
  rw [h2]
  exact kt.now k hs (.bl _)
def D.isN : D → Bool
  | .non => true
  | _ => false
theorem isN_eq {K : PySem.W.Frag} {F : Hp} {u : V} (r1 : Rep K F u d) : decide (u = V.non) = D.isN d := by
  cases r1 <;> simp [D.isN]
theorem o_isN (k : Φ (.bl (D.isN d)) μ) : wOp X (compareOp .Is) d .non μ Φ := wop_of op_isN fun F H u v hs r1 r2 Q kt => by
  cases r2
  refine ⟨rfl, ?_⟩
  rw [isN_eq r1]
  exact kt.now k hs (.bl _)
theorem o_notN (k : Φ (.bl (!D.isN d)) μ) : wOp X (compareOp .IsNot) d .non μ Φ := wop_of op_notN fun F H u v hs r1 r2 Q kt => by
  cases r2
  refine ⟨rfl, ?_⟩
  rw [isN_eq r1]
  exact kt.now k hs (.bl _)
/-- in a tuple or a list of flat things -/
theorem o_in {w : V} {ds : List D} {ws : List V} (hd : d2 = .tup ds ∨ d2 = .lst ds ∨ d2 = .scr ds) (h1 : d.fl = some w) (h2 : D.fls ds = some ws) (k : Φ (.bl (inV w ws)) μ) : wOp X (compareOp .In) d d2 μ Φ := wop_of op_in_seq fun F H u v hs r1 r2 Q kt => by
  have e1 := rep_fl r1 h1
  subst e1
  rcases hd with rfl | rfl | rfl
  · cases r2 with
    | tup g q =>
      have e2 := rep_fls q h2
      subst e2
      exact ⟨_, _, rfl, .inr (Evl.ex_t hs.ex g), fl_flat h1, fls_flat h2, kt.now k hs (.bl _)⟩
  · cases r2 with
    | lst g q =>
      have e2 := rep_fls q h2
      subst e2
      exact ⟨_, _, rfl, .inl (Evl.ex_l hs.ex (Evl.sq_of g)), fl_flat h1, fls_flat h2, kt.now k hs (.bl _)⟩
  · cases r2 with
    | scr g q =>
      have e2 := rep_fls q h2
      subst e2
      exact ⟨_, _, rfl, .inl (Evl.ex_l hs.ex g), fl_flat h1, fls_flat h2, kt.now k hs (.bl _)⟩
theorem o_nin {w : V} {ds : List D} {ws : List V} (hd : d2 = .tup ds ∨ d2 = .lst ds ∨ d2 = .scr ds) (h1 : d.fl = some w) (h2 : D.fls ds = some ws) (k : Φ (.bl (!inV w ws)) μ) : wOp X (compareOp .NotIn) d d2 μ Φ := wop_of op_notIn_seq fun F H u v hs r1 r2 Q kt => by
  have e1 := rep_fl r1 h1
  subst e1
  rcases hd with rfl | rfl | rfl
  · cases r2 with
    | tup g q =>
      have e2 := rep_fls q h2
      subst e2
      exact ⟨_, _, rfl, .inr (Evl.ex_t hs.ex g), fl_flat h1, fls_flat h2, kt.now k hs (.bl _)⟩
  · cases r2 with
    | lst g q =>
      have e2 := rep_fls q h2
      subst e2
      exact ⟨_, _, rfl, .inl (Evl.ex_l hs.ex (Evl.sq_of g)), fl_flat h1, fls_flat h2, kt.now k hs (.bl _)⟩
  · cases r2 with
    | scr g q =>
      have e2 := rep_fls q h2
      subst e2
      exact ⟨_, _, rfl, .inl (Evl.ex_l hs.ex g), fl_flat h1, fls_flat h2, kt.now k hs (.bl _)⟩
/-! == at any depth -/
mutual
def D.py : D → PyData
  | .non => .none
  | .bl b => .bool b
  | .int i => .int i
  | .str x => .str x
  | .tup l => .tuple (D.pys l)
  | .lst l => .list (D.pys l)
  | .scr l => .list (D.pys l)
  | _ => .none
def D.pys : List D → List PyData
  | [] => []
  | d :: ds => D.py d :: D.pys ds
end
mutual
/-- nothing in it that may change -/
def D.still : D → Bool
  | .tup l => D.stills l
  | .lst l => D.stills l
  | .scr l => D.stills l
  | .ptr _ => false
  | .ty _ => false
  | _ => true
def D.stills : List D → Bool
  | [] => true
  | d :: ds => D.still d && D.stills ds
end
mutual
theorem rep_py {K : PySem.W.Frag} {F H : Hp} (e : Ex F H) : ∀ {d : D} {v : V}, Rep K F v d → D.still d = true → Dp K H v (D.py d)
  | _, _, .non, _ => .non
  | _, _, .bl b, _ => .bl b
  | _, _, .int i, _ => .int i
  | _, _, .str x, _ => .str x
  | _, _, .tup (ds := ds) g r, h => .tup (Evl.ex_t e g) (reps_py e r (by simpa [D.still] using h))
  | _, _, .lst (ds := ds) g r, h => .lst (Evl.sq_of (e _ _ g)) (reps_py e r (by simpa [D.still] using h))
  | _, _, .scr (ds := ds) g r, h => .lst (Evl.ex_l e g) (reps_py e r (by simpa [D.still] using h))
  | _, _, .ptr a, h => absurd h (by simp [D.still])
  | _, _, .ty a, h => absurd h (by simp [D.still])
theorem reps_py {K : PySem.W.Frag} {F H : Hp} (e : Ex F H) : ∀ {d : List D} {v : List V}, Reps K F v d → D.stills d = true → DpAll K H v (D.pys d)
  | _, _, .nil, _ => .nil
  | _, _, .cons r rr, h => by
    rw [D.stills, Bool.and_eq_true] at h
    exact .cons (rep_py e r h.1) (reps_py e rr h.2)
end
theorem o_eqD (hu : X.A.units + 64 < cLine) (h1 : D.still d1 = true) (h2 : D.still d2 = true) (s1 : SeqAt.shaped d1.py = true) (s2 : SeqAt.shaped d2.py = true) (k : Φ (.bl (PyData.eqv d1.py d2.py)) μ) : wOp X (compareOp .Eq) d1 d2 μ Φ := wop_of (op_eqD hu) fun F H u v hs r1 r2 Q kt =>
  ⟨_, _, rep_py hs.ex r1 h1, rep_py hs.ex r2 h2, s1, s2, kt.now k hs (.bl _)⟩
theorem o_neD (hu : X.A.units + 64 < cLine) (h1 : D.still d1 = true) (h2 : D.still d2 = true) (s1 : SeqAt.shaped d1.py = true) (s2 : SeqAt.shaped d2.py = true) (k : Φ (.bl (!PyData.eqv d1.py d2.py)) μ) : wOp X (compareOp .NotEq) d1 d2 μ Φ := wop_of (op_neD hu) fun F H u v hs r1 r2 Q kt =>
  ⟨_, _, rep_py hs.ex r1 h1, rep_py hs.ex r2 h2, s1, s2, kt.now k hs (.bl _)⟩
/-! subscripts -/
theorem wix_of {r : R2} (ho : IxR X r) (h : ∀ F H x y, Hs X.K F μ H → Rep X.K F x d1 → Rep X.K F y d2 → ∀ Q, Kont X.K F Φ Q → r x y H Q) : wIx X d1 d2 μ Φ := fun F H x y hs r1 r2 Q kt value slice pins s σ v u I rv ru z => ho value slice pins s σ H x y v u Q I rv ru (h F H x y hs r1 r2 Q kt) z
theorem ix_tupD {ds : List D} (n : Nat) (hn : i = (n : Int)) (hd : ds[n]? = some d) (k : Φ d μ) : wIx X (.tup ds) (.int i) μ Φ := wix_of ix_tup fun F H x y hs r1 r2 Q kt => by
  subst hn
  cases r2
  cases r1 with
  | tup g q =>
    obtain ⟨v, h1, h2⟩ := q.get hd
    exact ⟨_, _, _, v, rfl, rfl, Evl.ex_t hs.ex g, atI_nat h1, kt.now k hs h2⟩
theorem ix_lstD {ds : List D} (n : Nat) (hn : i = (n : Int)) (hd : ds[n]? = some d) (k : Φ d μ) : wIx X (.lst ds) (.int i) μ Φ := wix_of ix_list fun F H x y hs r1 r2 Q kt => by
  subst hn
  cases r2
  cases r1 with
  | lst g q =>
    obtain ⟨v, h1, h2⟩ := q.get hd
    exact ⟨_, _, _, v, rfl, rfl, Evl.sq_of (hs.ex _ _ g), atI_nat h1, kt.now k hs h2⟩
theorem ix_scrD {ds : List D} (n : Nat) (hn : i = (n : Int)) (hd : ds[n]? = some d) (k : Φ d μ) : wIx X (.scr ds) (.int i) μ Φ := wix_of ix_list fun F H x y hs r1 r2 Q kt => by
  subst hn
  cases r2
  cases r1 with
  | scr g q =>
    obtain ⟨v, h1, h2⟩ := q.get hd
    exact ⟨_, _, _, v, rfl, rfl, Evl.ex_l hs.ex g, atI_nat h1, kt.now k hs h2⟩
theorem ix_ptrD {q : Addr} {ds : List D} (m : Nat) (hm : μ[m]? = some (q, .lst ds)) (n : Nat) (hn : i = (n : Int)) (hd : ds[n]? = some d) (k : Φ d μ) : wIx X (.ptr q) (.int i) μ Φ := wix_of ix_list fun F H x y hs r1 r2 Q kt => by
  subst hn
  cases r2
  cases r1
  obtain ⟨xs, g, r⟩ := hs.lst hm
  obtain ⟨v, h1, h2⟩ := r.get hd
  exact ⟨_, _, _, v, rfl, rfl, Evl.sq_of g, atI_nat h1, kt.now k hs h2⟩
theorem ix_strD (n : Nat) (hn : i = (n : Int)) {c : Nat} (hz : x.length ≤ sizeLine) (hd : x.cps.toList[n]? = some c) (k : Φ (.str ⟨#[c]⟩) μ) : wIx X (.str x) (.int i) μ Φ := wix_of ix_str fun F H _ _ hs r1 r2 Q kt => by
  subst hn
  cases r2
  cases r1
  exact ⟨_, _, c, rfl, rfl, hz, atI_nat hd, kt.now k hs (.str _)⟩
/-! built-in functions -/
theorem wcl_of {g : Value} {r : List V → Hp → VK → Prop} {ds : List D} (ho : CallR X g r) (h : ∀ F H xs, Hs X.K F μ H → Reps X.K F xs ds → ∀ Q, Kont X.K F Φ Q → r xs H Q) : wCl X g ds μ Φ := fun F H xs hs r1 Q kt pins s σ us I rv => ho pins s σ H xs us Q I rv (h F H xs hs r1 Q kt)
theorem c_abs (k : Φ (.int (if i < 0 then -i else i)) μ) : wCl X (.builtin "abs") [.int i] μ Φ := wcl_of call_abs fun F H xs hs r1 Q kt => by
  cases r1 with
  | cons r rr => cases rr; cases r; exact ⟨i, rfl, kt.now k hs (.int _)⟩
theorem c_max2 (hc : X.calm = true) (k : Φ (.int (if j > i then j else i)) μ) : wCl X (.builtin "max") [.int i, .int j] μ Φ := wcl_of (call_max2 hc) fun F H xs hs r1 Q kt => by
  cases r1 with
  | cons r rr => cases rr with | cons r2 rr => cases rr; cases r; cases r2; exact ⟨i, j, rfl, kt.now k hs (.int _)⟩
theorem c_min2 (hc : X.calm = true) (k : Φ (.int (if j < i then j else i)) μ) : wCl X (.builtin "min") [.int i, .int j] μ Φ := wcl_of (call_min2 hc) fun F H xs hs r1 Q kt => by
  cases r1 with
  | cons r rr => cases rr with | cons r2 rr => cases rr; cases r; cases r2; exact ⟨i, j, rfl, kt.now k hs (.int _)⟩
theorem c_lenL {ds : List D} (k : Φ (.int ds.length) μ) : wCl X (.builtin "len") [.lst ds] μ Φ := wcl_of call_len_seq fun F H xs hs r1 Q kt => by
  cases r1 with
  | cons r rr =>
    cases rr
    cases r with
    | lst g q =>
      rw [← q.length] at k
      exact ⟨_, _, rfl, .inl (Evl.sq_of (hs.ex _ _ g)), kt.now k hs (.int _)⟩
theorem c_lenC {ds : List D} (k : Φ (.int ds.length) μ) : wCl X (.builtin "len") [.scr ds] μ Φ := wcl_of call_len_seq fun F H xs hs r1 Q kt => by
  cases r1 with
  | cons r rr =>
    cases rr
    cases r with
    | scr g q =>
      rw [← q.length] at k
      exact ⟨_, _, rfl, .inl (Evl.ex_l hs.ex g), kt.now k hs (.int _)⟩
theorem c_lenT {ds : List D} (k : Φ (.int ds.length) μ) : wCl X (.builtin "len") [.tup ds] μ Φ := wcl_of call_len_seq fun F H xs hs r1 Q kt => by
  cases r1 with
  | cons r rr =>
    cases rr
    cases r with
    | tup g q =>
      rw [← q.length] at k
      exact ⟨_, _, rfl, .inr (Evl.ex_t hs.ex g), kt.now k hs (.int _)⟩
theorem c_lenP {q : Addr} {ds : List D} (m : Nat) (hm : μ[m]? = some (q, .lst ds)) (k : Φ (.int ds.length) μ) : wCl X (.builtin "len") [.ptr q] μ Φ := wcl_of call_len_seq fun F H xs hs r1 Q kt => by
  cases r1 with
  | cons r rr =>
    cases rr
    cases r
    obtain ⟨xs, g, r⟩ := hs.lst hm
    rw [← r.length] at k
    exact ⟨_, _, rfl, .inl (Evl.sq_of g), kt.now k hs (.int _)⟩
theorem c_lenS (hz : x.length ≤ sizeLine) (k : Φ (.int x.length) μ) : wCl X (.builtin "len") [.str x] μ Φ := wcl_of call_len_str fun F H xs hs r1 Q kt => by
  cases r1 with
  | cons r rr =>
    cases rr
    cases r
    exact ⟨_, rfl, hz, kt.now k hs (.int _)⟩
theorem c_str (hz : i.natAbs.log2 < 1920) (k : Φ (.str (toString i)) μ) : wCl X (.type "str") [.int i] μ Φ := wcl_of call_str_int fun F H xs hs r1 Q kt => by
  cases r1 with
  | cons r rr =>
    cases rr
    cases r
    exact ⟨_, rfl, hz, kt.now k hs (.str _)⟩
theorem c_intB {t : Bool} (k : Φ (.int (if t then 1 else 0)) μ) : wCl X (.type "int") [.bl t] μ Φ := wcl_of call_int1 fun F H xs hs r1 Q kt => by
  cases r1 with
  | cons r rr =>
    cases rr
    cases r
    exact .inr ⟨_, rfl, kt.now k hs (.int _)⟩
theorem c_intS {n : Int} (h : PySem.intText? x = some n) (hz : x.length ≤ 640) (k : Φ (.int n) μ) : wCl X (.type "int") [.str x] μ Φ := wcl_of call_int_str fun F H xs hs r1 Q kt => by
  cases r1 with
  | cons r rr =>
    cases rr
    cases r
    exact ⟨_, _, rfl, h, hz, kt.now k hs (.int _)⟩
/-- tuple(a list), list(a tuple, a list) -/
theorem c_tupL {ds : List D} (k : Φ (.tup ds) μ) : wCl X (.type "tuple") [.lst ds] μ Φ := wcl_of call_tuple_of fun F H xs hs r1 Q kt => by
  cases r1 with
  | cons r rr =>
    cases rr
    cases r with
    | lst g q =>
      refine ⟨_, _, rfl, .inl ⟨Evl.sq_of (hs.ex _ _ g), fun p hp => ?_⟩⟩
      obtain ⟨s1, s2⟩ := hs.laid (u := .tup _) hp
      exact kt _ _ _ _ _ k s2 s1 (.tup (.inl (.inl upd_same)) (q.mono s2))
theorem c_tupP {q : Addr} {ds : List D} (m : Nat) (hm : μ[m]? = some (q, .lst ds)) (k : Φ (.tup ds) μ) : wCl X (.type "tuple") [.ptr q] μ Φ := wcl_of call_tuple_of fun F H xs hs r1 Q kt => by
  cases r1 with
  | cons r rr =>
    cases rr
    cases r
    obtain ⟨xs, g, r⟩ := hs.lst hm
    refine ⟨_, _, rfl, .inl ⟨Evl.sq_of g, fun p hp => ?_⟩⟩
    obtain ⟨s1, s2⟩ := hs.laid (u := .tup _) hp
    exact kt _ _ _ _ _ k s2 s1 (.tup (.inl (.inl upd_same)) (r.mono s2))
theorem c_tupT {ds : List D} (k : Φ (.tup ds) μ) : wCl X (.type "tuple") [.tup ds] μ Φ := wcl_of call_tuple_of fun F H xs hs r1 Q kt => by
  cases r1 with
  | cons r rr =>
    cases rr
    cases r with
    | tup g q => exact ⟨_, _, rfl, .inr ⟨Evl.ex_t hs.ex g, kt.now k hs (.tup g q)⟩⟩
theorem c_lstT {ds : List D} (k : ∀ p, Φ (.ptr p) ((p, .lst ds) :: μ)) : wCl X (.type "list") [.tup ds] μ Φ := wcl_of call_list_of fun F H xs hs r1 Q kt => by
  cases r1 with
  | cons r rr =>
    cases rr
    cases r with
    | tup g q => exact ⟨_, _, rfl, .inr (Evl.ex_t hs.ex g), fun p hp => kt _ _ _ _ _ (k p) (Ex.refl F) (hs.cell hp (.lst q)) (.ptr p)⟩
theorem c_lstL {ds : List D} (k : ∀ p, Φ (.ptr p) ((p, .lst ds) :: μ)) : wCl X (.type "list") [.lst ds] μ Φ := wcl_of call_list_of fun F H xs hs r1 Q kt => by
  cases r1 with
  | cons r rr =>
    cases rr
    cases r with
    | lst g q => exact ⟨_, _, rfl, .inl (Evl.sq_of (hs.ex _ _ g)), fun p hp => kt _ _ _ _ _ (k p) (Ex.refl F) (hs.cell hp (.lst q)) (.ptr p)⟩
/-- isinstance -/
theorem w_ty {z : Str} {n : String} (hm : X.mg z = none) (k : Φ (.ty n) μ) (hg : Gl X z := by rfl) (hv : bootBuiltins z = some (.type n) := by decide +kernel) (hn : z ≠ "__name__" := by decide) (hd : (z == ("__debug__" : Str)) = false := by decide) : wE X (.Name z pos) ρ μ Φ := fun F σ H hs sl Q kt =>
  se_of (pe_bltn hg hm hv (v := .ty n) rfl hn hd) (kt.now k hs (.ty n))
/-- the class of a thing -/
def D.cls : D → Option Value
  | .non => some (.type "NoneType")
  | .bl _ => some (.type "bool")
  | .int _ => some (.type "int")
  | .str _ => some (.type "str")
  | .lst _ => some (.type "list")
  | .scr _ => some (.type "list")
  | .tup _ => some (.type "tuple")
  | _ => none
theorem rep_cls {K : PySem.W.Frag} {F H : Hp} {v : V} {t : Value} (e : Ex F H) (r : Rep K F v d) (h : d.cls = some t) : TyX K H v t := by
  cases r with
  | non => cases h; exact .base .non
  | bl b => cases h; exact .base (.bl b)
  | int b => cases h; exact .base (.int b)
  | str b => cases h; exact .base (.str b)
  | lst g q => cases h; exact .base (.lst (e _ _ g))
  | scr g q =>
    cases h
    rcases Evl.ex_l e g with (g | ⟨o, g⟩) | ⟨o, its, n, g, c, _⟩
    · exact .base (.lst g)
    · exact .base (.frz g)
    · exact .kList g c
  | tup g q =>
    cases h
    rcases Evl.ex_t e g with (g | ⟨o, g⟩) | ⟨o, its, n, g, c, _⟩
    · exact .base (.tup g)
    · exact .fTuple g
    · exact .kTuple g c
  | ptr a => cases h
  | ty n => cases h
theorem c_isi {n : String} {t : Value} {k : Bool} (h : d.cls = some t) (hk : PySem.W.kitOne X.K t (.type n) = some k) (q : Φ (.bl k) μ) : wCl X (.builtin "isinstance") [d, .ty n] μ Φ := wcl_of call_isi fun F H xs hs r1 Q kt => by
  cases r1 with
  | cons r rr =>
    cases rr with
    | cons r2 rr =>
      cases rr
      cases r2
      exact ⟨_, _, t, _, k, rfl, .ty n, rep_cls hs.ex r h, hk, kt.now q hs (.bl _)⟩
end
end Oc

/-! Own layer, part 4: methods, dicts. -/
namespace Oc
open PySem PySem.Spec L2
open Evl (Ex)
section
variable {κ : Type} [DecidableEq κ]
def valD (ds : List (κ × D)) (k : κ) : Option D := (ds.find? fun kv => decide (kv.1 = k)).map (·.2)
def putD (ds : List (κ × D)) (k : κ) (v : D) : List (κ × D) := if (ds.any fun kv => decide (kv.1 = k)) = true then ds.map (fun kv => if kv.1 = k then (kv.1, v) else kv) else ds ++ [(k, v)]
theorem valD_nil {k : κ} : valD ([] : List (κ × D)) k = none := rfl
theorem valD_pos {d : D} {r : List (κ × D)} {k : κ} : valD ((k, d) :: r) k = some d := by simp [valD]
theorem valD_neg {p : κ × D} {r : List (κ × D)} {k : κ} (e : ¬ p.1 = k) : valD (p :: r) k = valD r k := by simp [valD, List.find?_cons, e]
theorem RepK.val {K : PySem.W.Frag} {F : Hp} : ∀ {ds : List (κ × D)} {kvs : List (κ × V)}, RepK K F ds kvs → ∀ k, (∀ d, valD ds k = some d → ∃ v, valV kvs k = some v ∧ Rep K F v d) ∧ (valD ds k).isSome = (valV kvs k).isSome
  | _, _, .nil, k => ⟨fun d h => (nomatch h), rfl⟩
  | p :: ds, q :: kvs, .cons r rr, k => by
    obtain ⟨h1, h2⟩ := RepK.val (ds := ds) (kvs := kvs) rr k
    obtain ⟨p1, p2⟩ := p
    obtain ⟨q1, q2⟩ := q
    obtain ⟨e, r⟩ := r
    have e : p1 = q1 := e
    subst e
    by_cases hk : p1 = k
    · subst hk
      rw [valD_pos, valV_pos (p := (p1, q2)) rfl]
      exact ⟨fun d h => by cases h; exact ⟨_, rfl, r⟩, rfl⟩
    · rw [valD_neg (p := (p1, p2)) hk, valV_neg (p := (p1, q2)) hk]
      exact ⟨h1, h2⟩
theorem RepK.len {K : PySem.W.Frag} {F : Hp} {ds : List (κ × D)} {kvs : List (κ × V)} (h : RepK K F ds kvs) : ds.length = kvs.length := Paired.length h
theorem RepK.any {K : PySem.W.Frag} {F : Hp} {k : κ} : ∀ {ds : List (κ × D)} {kvs : List (κ × V)}, RepK K F ds kvs → (ds.any fun kv => decide (kv.1 = k)) = kvs.any fun kv => decide (kv.1 = k)
  | _, _, .nil => rfl
  | p :: ds, q :: kvs, .cons r rr => by rw [List.any_cons, List.any_cons, RepK.any (ds := ds) (kvs := kvs) rr, r.1]
theorem RepK.map {K : PySem.W.Frag} {F : Hp} {k : κ} {v : V} {d : D} (hr : Rep K F v d) : ∀ {ds : List (κ × D)} {kvs : List (κ × V)}, RepK K F ds kvs → RepK K F (ds.map fun kv => if kv.1 = k then (kv.1, d) else kv) (kvs.map fun kv => if kv.1 = k then (kv.1, v) else kv)
  | _, _, .nil => .nil
  | p :: ds, q :: kvs, .cons r rr => by
    refine .cons ?_ (RepK.map hr (ds := ds) (kvs := kvs) rr)
    show (if p.1 = k then (p.1, d) else p).1 = (if q.1 = k then (q.1, v) else q).1 ∧ Rep K F (if q.1 = k then (q.1, v) else q).2 (if p.1 = k then (p.1, d) else p).2
    rw [← r.1]
    by_cases hk : p.1 = k
    · rw [if_pos hk, if_pos hk]; exact ⟨rfl, hr⟩
    · rw [if_neg hk, if_neg hk]; exact r
theorem RepK.snoc {K : PySem.W.Frag} {F : Hp} {k : κ} {v : V} {d : D} (hr : Rep K F v d) : ∀ {ds : List (κ × D)} {kvs : List (κ × V)}, RepK K F ds kvs → RepK K F (ds ++ [(k, d)]) (kvs ++ [(k, v)])
  | _, _, .nil => .cons ⟨rfl, hr⟩ .nil
  | p :: ds, q :: kvs, .cons r rr => .cons r (RepK.snoc hr (ds := ds) (kvs := kvs) rr)
theorem RepK.put {K : PySem.W.Frag} {F : Hp} {k : κ} {v : V} {d : D} (hr : Rep K F v d) {ds : List (κ × D)} {kvs : List (κ × V)} (h : RepK K F ds kvs) : RepK K F (putD ds k d) (putK kvs k v) := by
  unfold putD putK
  rw [← h.any]
  split
  · exact h.map hr
  · exact h.snoc hr
end
def kD : Key → D
  | .inl i => .int i
  | .inr x => .str x
theorem rep_kD {K : PySem.W.Frag} {F : Hp} {v : V} {k : Key} (r : Rep K F v (kD k)) : v = kV k := by
  cases k <;> (cases r; rfl)
theorem rep_kDs {K : PySem.W.Frag} {F : Hp} : ∀ {ks : List Key} {vs : List V}, Reps K F vs (ks.map kD) → vs = ks.map kV
  | [], _, .nil => rfl
  | k :: ks, _, .cons r rr => by rw [rep_kD r, rep_kDs rr]; rfl
def mergeD (ds more : List (Key × D)) : List (Key × D) := more.foldl (fun acc kv => putD acc kv.1 kv.2) ds
theorem RepK.merge {K : PySem.W.Frag} {F : Hp} : ∀ {ds' : List (Key × D)} {kvs' : List (Key × V)} {ds : List (Key × D)} {kvs : List (Key × V)}, RepK K F ds' kvs' → RepK K F ds kvs → RepK K F (mergeD ds ds') (mergeK kvs kvs')
  | _, _, _, _, .nil, h => h
  | p :: ds', q :: kvs', ds, kvs, .cons r rr, h => by
    have h1 := h.put (k := p.1) r.2
    have e : putK kvs p.1 q.2 = putK kvs q.1 q.2 := by rw [r.1]
    rw [e] at h1
    exact RepK.merge (ds' := ds') (kvs' := kvs') rr h1
section
variable {X : Cx} {e a b c o k v : Expr} {es : List Expr} {ρ : Rho} {μ : Mu} {Φ : D → Mu → Prop} {d d1 d2 : D} {i j : Int} {x y : Str} {pos p apos cpos : Pos} {E : En} {ΦS : Rho → Mu → Prop}
/-! methods of lists and texts -/
theorem tyD_V {K : PySem.W.Frag} {F H : Hp} {T : String} {u : V} (hs : Hs K F μ H) (r : Rep K F u d) (h : tyD T d μ) (hT : T ≠ "tuple") : tyV K T u H := by
  cases r with
  | str x => exact h
  | lst g q => exact .inl ⟨h, _, Evl.sq_of (hs.ex _ _ g)⟩
  | scr g q => exact .inl ⟨h, _, Evl.ex_l hs.ex g⟩
  | tup g q => exact absurd h hT
  | ptr a =>
    rcases h with ⟨h, i, l, hi⟩ | ⟨h, i, l, hi⟩ | ⟨h, i, l, hi⟩
    · obtain ⟨xs, g, _⟩ := hs.lst hi
      exact .inl ⟨h, _, Evl.sq_of g⟩
    · obtain ⟨xs, g, _⟩ := hs.dk hi
      exact .inr (.inr (.inl ⟨h, .inl ⟨_, g⟩⟩))
    · obtain ⟨xs, g, _⟩ := hs.dt hi
      exact .inr (.inr (.inl ⟨h, .inr ⟨_, g⟩⟩))
  | non => exact h.elim
  | bl b => exact h.elim
  | int b => exact h.elim
  | ty b => exact h.elim
def sMt (X : Cx) (id : String) : V → List V → Hp → VK → Prop := fun x xs H Q => ∀ (pins : List (Addr × Obj)) (s : Shared) (σ : L2.St) (v : Value) (us : List Value), Inv X pins σ H s → RelV x v → Vals xs us → wpAny (model X.prog X.w) X.A (call (.builtin id) (v :: us)) (EP X pins σ Q) X.xe s
theorem mt_s {X : Cx} {id : String} : MtR X id (sMt X id) := fun pins s σ H x xs v us Q I rx rv h => h pins s σ v us I rx rv
theorem wmt_of {X : Cx} {T id : String} {r : V → List V → Hp → VK → Prop} {ds : List D} {μ : Mu} {Φ : D → Mu → Prop} {d : D} (hm : MtR X id r) (h : ∀ F H x xs, Hs X.K F μ H → Rep X.K F x d → Reps X.K F xs ds → ∀ Q, Kont X.K F Φ Q → r x xs H Q) : wMt X T id d ds μ Φ :=
  fun F H x xs hs r1 r2 Q kt pins s σ v us I rv ru => hm pins s σ H x xs v us Q I rv ru (h F H x xs hs r1 r2 Q kt)
/-- o.m(e, ..) of a built-in type -/
theorem w_bm {T id : String} {name : Str} (hT : T ≠ "tuple") (pa : PlainAttrs T) (slot : Slot T name id) (hty : typeOf (.builtin id) = pure (.type "method_descriptor")) (h : wE X o ρ μ fun d μ1 => tyD T d μ1 ∧ wA X (e :: es) ρ μ1 fun ds μ2 => wMt X T id d ds μ2 Φ)
    (hbase : attributeBase o name X.env (eval o X.env) = eval o X.env := by rfl)
    (hfew : ((backTo cpos (starEach (e :: es) X.env)).all (fun x => !x.1) && (backToKw cpos (keywordEach [] X.env)).all (fun x => x.1.isSome)
      && decide ((e :: es).length + ([] : List Keyword).length + (if ([] : List Keyword).isEmpty then 0 else 1) < 30)) = true := by rfl)
    (hline : (apos.endLine == cpos.line) = true := by rfl) (hs : starEach (e :: es) X.env = (false, eval e X.env) :: starEach es X.env := by rfl) (hplain : (backTo cpos (starEach es X.env)).any (·.1) = false := by rfl) :
    wE X (.Call (.Attribute o name apos) (e :: es) [] cpos) ρ μ Φ := fun F σ H hh sl Q kt =>
  se_of (pe_bm pa slot hty (mt_s (X := X)) pe_s pa_s hbase hfew hline hs hplain) (h F σ H hh sl _ fun u F1 H1 d μ1 ⟨q1, q⟩ e1 hs1 r1 => ⟨tyD_V hs1 r1 q1 hT, q F1 σ H1 hs1 (sl.mono e1) _ fun us F2 H2 ds μ2 q2 e2 hs2 r2 => q2 F2 H2 u us hs2 (r1.mono e2) r2 Q (kt.mono (e1.trans e2))⟩)
theorem w_bm0 {T id : String} {name : Str} (hT : T ≠ "tuple") (pa : PlainAttrs T) (slot : Slot T name id) (hty : typeOf (.builtin id) = pure (.type "method_descriptor")) (h : wE X o ρ μ fun d μ1 => tyD T d μ1 ∧ wMt X T id d [] μ1 Φ)
    (hbase : attributeBase o name X.env (eval o X.env) = eval o X.env := by rfl) (hline : (apos.endLine == cpos.line) = true := by rfl) : wE X (.Call (.Attribute o name apos) [] [] cpos) ρ μ Φ := fun F σ H hh sl Q kt =>
  se_of (pe_bm0 pa slot hty (mt_s (X := X)) pe_s hbase hline) (h F σ H hh sl _ fun u F1 H1 d μ1 ⟨q1, q⟩ e1 hs1 r1 => ⟨tyD_V hs1 r1 q1 hT, q F1 H1 u [] hs1 r1 .nil Q (kt.mono e1)⟩)
theorem m_append {q : Addr} {ds : List D} (m : Nat) (hm : μ[m]? = some (q, .lst ds)) (hz : ds.length < 1000000) (k : Φ .non (μ.set m (q, .lst (ds ++ [d])))) : wMt X "list" "list.append" (.ptr q) [d] μ Φ := wmt_of mt_append fun F H u us hs r1 r2 Q kt => by
  cases r1
  cases r2 with
  | cons r rr =>
    cases rr
    obtain ⟨xs, g, rx⟩ := hs.lst hm
    refine ⟨_, _, _, rfl, rfl, g, Nat.lt_trans (by rw [rx.length]; exact hz) (show 1000000 < sizeLine by decide), ?_⟩
    exact kt.now k (hs.write hm (.lst (rx.append (.one r)))) .non
theorem m_pop {q : Addr} {ds : List D} (m : Nat) (hm : μ[m]? = some (q, .lst ds)) (hd : ds[ds.length - 1]? = some d) (k : Φ d (μ.set m (q, .lst ds.dropLast))) : wMt X "list" "list.pop" (.ptr q) [] μ Φ := wmt_of mt_pop fun F H u us hs r1 r2 Q kt => by
  cases r1
  cases r2
  obtain ⟨xs, g, rx⟩ := hs.lst hm
  obtain ⟨v, h1, h2⟩ := rx.get hd
  rw [← rx.length] at h1
  refine ⟨_, _, v, rfl, rfl, g, h1, ?_⟩
  refine kt.now k (hs.write hm (.lst ?_)) h2
  rw [List.dropLast_eq_take, List.dropLast_eq_take, rx.length]
  exact rx.take _
theorem m_reverse {q : Addr} {ds : List D} (m : Nat) (hm : μ[m]? = some (q, .lst ds)) (k : Φ .non (μ.set m (q, .lst ds.reverse))) : wMt X "list" "list.reverse" (.ptr q) [] μ Φ := wmt_of mt_reverse fun F H u us hs r1 r2 Q kt => by
  cases r1
  cases r2
  obtain ⟨xs, g, rx⟩ := hs.lst hm
  exact ⟨_, _, rfl, rfl, g, kt.now k (hs.write hm (.lst rx.reverse)) .non⟩
theorem m_extend {q : Addr} {ds fs : List D} (m : Nat) (hm : μ[m]? = some (q, .lst ds)) (hz : ds.length + fs.length ≤ 1000000) (k : Φ .non (μ.set m (q, .lst (ds ++ fs)))) : wMt X "list" "list.extend" (.ptr q) [.lst fs] μ Φ := wmt_of mt_extend fun F H u us hs r1 r2 Q kt => by
  cases r1
  cases r2 with
  | cons r rr =>
    cases rr
    cases r with
    | lst g2 r2 =>
      obtain ⟨xs, g, rx⟩ := hs.lst hm
      exact ⟨_, _, _, _, rfl, rfl, g, hs.ex _ _ g2, Nat.le_trans (by rw [rx.length, r2.length]; exact hz) (show 1000000 ≤ sizeLine by decide), kt.now k (hs.write hm (.lst (rx.append r2))) .non⟩
theorem m_join {ys : List Str} (hd : (∃ ds : List D, (d = .lst ds ∨ d = .tup ds) ∧ ds = ys.map D.str) ∨ ∃ (m : Nat) (q : Addr), d = .ptr q ∧ μ[m]? = some (q, MO.lst (ys.map D.str))) (hz : (ys.map (·.length)).sum + ys.length * x.length ≤ 16777216) (k : Φ (.str (Txt.join x ys)) μ) : wMt X "str" "str.join" (.str x) [d] μ Φ := wmt_of mt_join fun F H u us hs r1 r2 Q kt => by
  cases r1
  cases r2 with
  | cons r rr =>
    cases rr
    rcases hd with ⟨ds, hd | hd, e⟩ | ⟨m, q, rfl, hm⟩
    · subst hd
      cases r with
      | lst g rx =>
        subst e
        rw [reps_strs rx] at g
        exact ⟨x, _, ys, rfl, rfl, .inl (Evl.sq_of (hs.ex _ _ g)), hz, kt.now k hs (.str _)⟩
    · subst hd
      cases r with
      | tup g rx =>
        subst e
        rw [reps_strs rx] at g
        exact ⟨x, _, ys, rfl, rfl, .inr (Evl.ex_t hs.ex g), hz, kt.now k hs (.str _)⟩
    · cases r
      obtain ⟨xs, g, rx⟩ := hs.lst hm
      rw [reps_strs rx] at g
      exact ⟨x, _, ys, rfl, rfl, .inl (Evl.sq_of g), hz, kt.now k hs (.str _)⟩
theorem w_append (h : wE X o ρ μ fun d μ1 => tyD "list" d μ1 ∧ wA X [e] ρ μ1 fun ds μ2 => wMt X "list" "list.append" d ds μ2 Φ)
    (hbase : attributeBase o "append" X.env (eval o X.env) = eval o X.env := by rfl)
    (hfew : ((backTo cpos (starEach [e] X.env)).all (fun x => !x.1) && (backToKw cpos (keywordEach [] X.env)).all (fun x => x.1.isSome)
      && decide (([e] : List Expr).length + ([] : List Keyword).length + (if ([] : List Keyword).isEmpty then 0 else 1) < 30)) = true := by rfl)
    (hline : (apos.endLine == cpos.line) = true := by rfl) (hs : starEach [e] X.env = (false, eval e X.env) :: starEach [] X.env := by rfl) :
    wE X (.Call (.Attribute o "append" apos) [e] [] cpos) ρ μ Φ := w_bm (by decide) PySem.F.plainAttrs_list PySem.F.slot_list_append PySem.F.type_list_append h hbase hfew hline hs rfl
theorem w_extend (h : wE X o ρ μ fun d μ1 => tyD "list" d μ1 ∧ wA X [e] ρ μ1 fun ds μ2 => wMt X "list" "list.extend" d ds μ2 Φ)
    (hbase : attributeBase o "extend" X.env (eval o X.env) = eval o X.env := by rfl)
    (hfew : ((backTo cpos (starEach [e] X.env)).all (fun x => !x.1) && (backToKw cpos (keywordEach [] X.env)).all (fun x => x.1.isSome)
      && decide (([e] : List Expr).length + ([] : List Keyword).length + (if ([] : List Keyword).isEmpty then 0 else 1) < 30)) = true := by rfl)
    (hline : (apos.endLine == cpos.line) = true := by rfl) (hs : starEach [e] X.env = (false, eval e X.env) :: starEach [] X.env := by rfl) :
    wE X (.Call (.Attribute o "extend" apos) [e] [] cpos) ρ μ Φ := w_bm (by decide) PySem.F.plainAttrs_list PySem.F.slot_list_extend PySem.F.type_list_extend h hbase hfew hline hs rfl
theorem w_pop (h : wE X o ρ μ fun d μ1 => tyD "list" d μ1 ∧ wMt X "list" "list.pop" d [] μ1 Φ) (hbase : attributeBase o "pop" X.env (eval o X.env) = eval o X.env := by rfl) (hline : (apos.endLine == cpos.line) = true := by rfl) :
    wE X (.Call (.Attribute o "pop" apos) [] [] cpos) ρ μ Φ := w_bm0 (by decide) PySem.F.plainAttrs_list PySem.F.slot_list_pop PySem.F.type_list_pop h hbase hline
theorem w_reverse (h : wE X o ρ μ fun d μ1 => tyD "list" d μ1 ∧ wMt X "list" "list.reverse" d [] μ1 Φ) (hbase : attributeBase o "reverse" X.env (eval o X.env) = eval o X.env := by rfl) (hline : (apos.endLine == cpos.line) = true := by rfl) :
    wE X (.Call (.Attribute o "reverse" apos) [] [] cpos) ρ μ Φ := w_bm0 (by decide) PySem.F.plainAttrs_list PySem.F.slot_list_reverse PySem.F.type_list_reverse h hbase hline
theorem w_join (h : wE X o ρ μ fun d μ1 => tyD "str" d μ1 ∧ wE X e ρ μ1 fun d2 μ2 => wMt X "str" "str.join" d [d2] μ2 Φ)
    (hbase : attributeBase o "join" X.env (eval o X.env) = eval o X.env := by rfl) (hline : (apos.endLine == cpos.line) = true := by rfl) (hs : starEach [e] X.env = [(false, eval e X.env)] := by rfl) :
    wE X (.Call (.Attribute o "join" apos) [e] [] cpos) ρ μ Φ := fun F σ H hh sl Q kt =>
  se_of (pe_m1 PySem.F.slot_str_join PySem.F.type_str_join (mt_s (X := X)) pe_s pe_s hs hbase hline) (h F σ H hh sl _ fun u F1 H1 d μ1 ⟨q1, q⟩ e1 hs1 r1 => by
    cases d with
    | str z =>
      cases r1
      exact ⟨⟨z, rfl⟩, q F1 σ H1 hs1 (sl.mono e1) _ fun w F2 H2 d2 μ2 q2 e2 hs2 r2 => q2 F2 H2 _ [w] hs2 (.str z) (.one r2) Q (kt.mono (e1.trans e2))⟩
    | _ => simp [tyD] at q1)
/-! dicts with keys ints and texts -/
theorem w_dget (hu : X.A.units + 1 < cLine) (h : wE X o ρ μ fun d1 μ1 => wE X k ρ μ1 fun d2 μ2 => ∃ (q : Addr) (m : Nat) (ds : List (Key × D)) (kk : Key) (d : D), d1 = .ptr q ∧ d2 = kD kk ∧ μ2[m]? = some (q, MO.dk ds) ∧ valD ds kk = some d ∧ Φ d μ2) (hs : NoSl k := by exact fun _ _ => rfl) : wE X (.Subscript o k pos) ρ μ Φ := fun F σ H hh sl Q kt =>
  se_of (pe_dget hu pe_s pe_s hs) (binW h hh sl fun x y F2 H2 d1 d2 μ2 ⟨q, m, ds, kk, d, h1, h2, hm, hv, z⟩ e hs2 r1 r2 => by
    subst h1
    subst h2
    cases r1
    have e2 := rep_kD r2
    subst e2
    obtain ⟨kvs, g, rk⟩ := hs2.dk hm
    obtain ⟨v, hv, rv⟩ := (rk.val kk).1 d hv
    exact ⟨q, v, rfl, by rw [← hv]; exact DGet.k g, kt _ _ _ _ _ z e hs2 rv⟩)
theorem w_dput (hu : X.A.units + 1 < cLine) {q0 : Pos} (h : wE X e ρ μ fun d μ0 => wE X o ρ μ0 fun d1 μ1 => wE X k ρ μ1 fun d2 μ2 => ∃ (q : Addr) (m : Nat) (ds : List (Key × D)) (kk : Key), d1 = .ptr q ∧ d2 = kD kk ∧ μ2[m]? = some (q, MO.dk ds) ∧ ds.length < 1000000 ∧ E.nx ρ (μ2.set m (q, .dk (putD ds kk d))))
    (hs : swapsWith e (some (.Subscript o k q0)) pos.line X.env = pure false := by rfl) : wS X (.Assign [.Subscript o k q0] e pos) ρ μ E := fun F σ H hh sl D kt =>
  ss_of (ps_dput hu pe_s pe_s pe_s hs) (h F σ H hh sl _ fun v F0 H0 d μ0 h0 e0 hs0 r0 => binW (R := fun x y H2 => ∃ a H4, x = .ref a ∧ DPut H2 a y v H4 ∧ D.nx σ H4) h0 hs0 (sl.mono e0) fun x y F2 H2 d1 d2 μ2 ⟨q, m, ds, kk, h1, h2, hm, hz, z⟩ e hs2 r1 r2 => by
    subst h1
    subst h2
    cases r1
    have e2 := rep_kD r2
    subst e2
    obtain ⟨kvs, g, rk⟩ := hs2.dk hm
    have hz' : kvs.length < sizeLine := Nat.lt_trans (by rw [← rk.len]; exact hz) (show 1000000 < sizeLine by decide)
    exact ⟨q, _, rfl, DPut.k g hz', kt.nx F2 _ σ ρ _ z (e0.trans e) (hs2.write hm (.dk (rk.put (r0.mono e)))) (sl.mono (e0.trans e))⟩)
theorem w_din (hu : X.A.units + 1 < cLine) (h : wE X k ρ μ fun d2 μ1 => wE X o ρ μ1 fun d1 μ2 => ∃ (q : Addr) (m : Nat) (ds : List (Key × D)) (kk : Key), d1 = .ptr q ∧ d2 = kD kk ∧ μ2[m]? = some (q, MO.dk ds) ∧ Φ (.bl (valD ds kk).isSome) μ2) (hm : behindInMarks .In o = false := by rfl) : wE X (.Compare k [.In] [o] pos) ρ μ Φ := fun F σ H hh sl Q kt =>
  se_of (pe_cmp (pc_din hu pe_s pe_s) hm) (binW h hh sl fun y x F2 H2 d2 d1 μ2 ⟨q, m, ds, kk, h1, h2, hm, z⟩ e hs2 r2 r1 => by
    subst h1
    subst h2
    cases r1
    have e2 := rep_kD r2
    subst e2
    obtain ⟨kvs, g, rk⟩ := hs2.dk hm
    refine ⟨q, _, rfl, DGet.k g, ?_⟩
    rw [← (rk.val kk).2]
    exact kt _ _ _ _ _ z e hs2 (.bl _))
theorem w_dnin (hu : X.A.units + 1 < cLine) (h : wE X k ρ μ fun d2 μ1 => wE X o ρ μ1 fun d1 μ2 => ∃ (q : Addr) (m : Nat) (ds : List (Key × D)) (kk : Key), d1 = .ptr q ∧ d2 = kD kk ∧ μ2[m]? = some (q, MO.dk ds) ∧ Φ (.bl (!(valD ds kk).isSome)) μ2) (hm : behindInMarks .NotIn o = false := by rfl) : wE X (.Compare k [.NotIn] [o] pos) ρ μ Φ := fun F σ H hh sl Q kt =>
  se_of (pe_cmp (pc_dnotin hu pe_s pe_s) hm) (binW h hh sl fun y x F2 H2 d2 d1 μ2 ⟨q, m, ds, kk, h1, h2, hm, z⟩ e hs2 r2 r1 => by
    subst h1
    subst h2
    cases r1
    have e2 := rep_kD r2
    subst e2
    obtain ⟨kvs, g, rk⟩ := hs2.dk hm
    refine ⟨q, _, rfl, DGet.k g, ?_⟩
    rw [← (rk.val kk).2]
    exact kt _ _ _ _ _ z e hs2 (.bl _))
/-- the pairs of a display -/
def wP (X : Cx) (ρ : Rho) : List (Option Expr) → List Expr → Mu → (List (D × D) → Mu → Prop) → Prop
  | [], [], μ, Ψ => Ψ [] μ
  | some k :: ks, v :: vs, μ, Ψ => wE X k ρ μ fun dk μ1 => wE X v ρ μ1 fun dv μ2 => wP X ρ ks vs μ2 fun ps μ3 => Ψ ((dk, dv) :: ps) μ3
  | _, _, _, _ => False
def sPs (X : Cx) : List (Option Expr) → List Expr → List (TE × TE)
  | some k :: ks, v :: vs => (sE X k, sE X v) :: sPs X ks vs
  | _, _ => []
inductive RepP (K : PySem.W.Frag) (F : Hp) : List (V × V) → List (D × D) → Prop
  | nil : RepP K F [] []
  | cons {u v : V} {d e : D} {ps : List (V × V)} {ds : List (D × D)} : Rep K F u d → Rep K F v e → RepP K F ps ds → RepP K F ((u, v) :: ps) ((d, e) :: ds)
theorem wP.pps {ρ : Rho} : ∀ {ks : List (Option Expr)} {vs : List Expr}, ks.all (·.isSome) = true → ks.length = vs.length → ∀ pos, PPs X pos ks vs (sPs X ks vs)
  | [], [], _, _, pos => pps_nil
  | some k :: ks, v :: vs, h, hl, pos => pps_cons pe_s pe_s (wP.pps (ρ := ρ) (ks := ks) (vs := vs) (by simpa using h) (by simpa using hl) pos)
  | some _ :: _, [], _, h, _ => by simp at h
  | none :: _, _, h, _, _ => by simp at h
  | [], _ :: _, _, h, _ => by simp at h
theorem wP.go {ρ : Rho} : ∀ {ks : List (Option Expr)} {vs : List Expr} {μ : Mu} {Ψ : List (D × D) → Mu → Prop}, wP X ρ ks vs μ Ψ → ∀ {F : Hp} {σ : L2.St} {H : Hp}, Hs X.K F μ H → Sl X.K F ρ σ → ∀ {Q : List (V × V) → Hp → Prop}, (∀ ps F' H' ds μ', Ψ ds μ' → Ex F F' → Hs X.K F' μ' H' → RepP X.K F' ps ds → Q ps H') →
    tPairs (sPs X ks vs) σ H Q
  | [], [], μ, Ψ, h, F, σ, H, hs, sl, Q, kt => kt [] F H [] μ h (Ex.refl F) hs .nil
  | some k :: ks, v :: vs, μ, Ψ, h, F, σ, H, hs, sl, Q, kt => h F σ H hs sl _ fun x F1 H1 d1 μ1 h1 e1 hs1 r1 => h1 F1 σ H1 hs1 (sl.mono e1) _ fun y F2 H2 d2 μ2 h2 e2 hs2 r2 =>
    wP.go (ks := ks) (vs := vs) h2 hs2 (sl.mono (e1.trans e2)) fun ps F3 H3 ds μ3 h3 e3 hs3 r3 => kt _ F3 H3 _ μ3 h3 (e1.trans (e2.trans e3)) hs3 (.cons (r1.mono (e2.trans e3)) (r2.mono e3) r3)
  | some _ :: _, [], μ, Ψ, h, F, σ, H, hs, sl, Q, kt => h.elim
  | none :: _, _, μ, Ψ, h, F, σ, H, hs, sl, Q, kt => h.elim
  | [], _ :: _, μ, Ψ, h, F, σ, H, hs, sl, Q, kt => h.elim
theorem repP_k {K : PySem.W.Frag} {F : Hp} : ∀ {kds : List (Key × D)} {ps : List (V × V)}, RepP K F ps (kds.map fun kv => (kD kv.1, kv.2)) → ∃ kvs : List (Key × V), ps = kvs.map (fun kv => (kV kv.1, kv.2)) ∧ RepK K F kds kvs
  | [], _, .nil => ⟨[], rfl, .nil⟩
  | (k, d) :: kds, _, .cons r1 r2 rr => by
    obtain ⟨kvs, h1, h2⟩ := repP_k rr
    refine ⟨(k, _) :: kvs, ?_, .cons ⟨rfl, r2⟩ h2⟩
    rw [rep_kD r1, h1]
    rfl
/-- {k: v, ..}: a new cell -/
theorem w_disp {ks : List (Option Expr)} {vs : List Expr} (h0 : ks ≠ []) (hall : ks.all (·.isSome) = true) (hl : ks.length = vs.length) (h15 : ks.length ≤ 15)
    (h : ∀ q, wP X ρ ks vs ((q, .dk []) :: μ) fun ps μ1 => ∃ (kds : List (Key × D)) (μ2 : Mu), ps = kds.map (fun kv => (kD kv.1, kv.2)) ∧ kds.length ≤ 15 ∧ μ1 = (q, MO.dk []) :: μ2 ∧ Φ (.ptr q) ((q, MO.dk (mergeD [] kds)) :: μ2)) : wE X (.Dict ks vs pos) ρ μ Φ := fun F σ H hh sl Q kt =>
  se_of (pe_disp (wP.pps (ρ := ρ) hall hl pos) hall hl h0 h15) fun q hq => (h q).go (hh.cell hq (.dk .nil)) sl fun ps F1 H1 ds μ1 ⟨kds, μ2, h1, h2, h3, h4⟩ e1 hs1 r1 => by
    subst h1
    subst h3
    obtain ⟨kvs0, g, rk0⟩ := hs1.dk (i := 0) rfl
    cases rk0
    obtain ⟨kvs, h5, h6⟩ := repP_k r1
    exact ⟨g, kvs, h5, by rw [← h6.len]; exact h2, kt _ F1 _ _ _ h4 e1 (hs1.write (i := 0) rfl (.dk (h6.merge .nil))) (.ptr q)⟩
theorem w_dnew (h : ∀ q, Φ (.ptr q) ((q, .dk []) :: μ)) : wE X (.Dict [] [] pos) ρ μ Φ := fun F σ H hh sl Q kt => se_of pe_dnewK fun q hq => kt _ F _ _ _ (h q) (Ex.refl F) (hh.cell hq (.dk .nil)) (.ptr q)
theorem w_dnewT (h : ∀ q, Φ (.ptr q) ((q, .dt []) :: μ)) : wE X (.Dict [] [] pos) ρ μ Φ := fun F σ H hh sl Q kt => se_of pe_dnewT fun q hq => kt _ F _ _ _ (h q) (Ex.refl F) (hh.cell hq (.dt .nil)) (.ptr q)
end
end Oc
namespace Oc
open PySem PySem.Spec L2
open Evl (Ex)
section
variable {P : Program} {w : World} {K : PySem.W.Frag} {mg : Str → Option Value} {base : Heap}
/-- a def of the text as it stands behind the top -/
structure Src (K : PySem.W.Frag) (mg : Str → Option Value) (x : Str) (st : Stmt) (ps : List Str) : Prop where
  ex : ∃ f fd, Fun K x x st f fd ∧ mg x = some (.ref f) ∧ Binds K fd ps []
/-- a def whose promise is shown -/
structure Kn (P : Program) (w : World) (K : PySem.W.Frag) (mg : Str → Option Value) (base : Heap) (k : Nat) (x : Str) (ps : List Str) (S : FS) : Prop where
  ex : ∃ f fd, mg x = some (.ref f) ∧ PySem.W.keepIn K (.ref f) = true ∧ Binds K fd ps [] ∧ FnOk P w K mg base CX0 k f fd ps (spD K S)
theorem kn_of {x : Str} {st : Stmt} {N ps : List Str} {k : Nat} {S : FS} (B : Src K mg x st ps) (Sc : FnScope N ps (defScope st)) (len : ∀ ds μ Φ, S ds μ Φ → ds.length = ps.length)
    (body : ∀ (f : Addr) (cdv : Value) (A : Around) (outer : List Env) (s : Shared) (H : Hp) (E : XK), Room k (A.deeper (PyProof.Rows.envOfC x (defScope st) s.heap.objs.size f cdv)) → ∀ ds μ Φ, S ds μ Φ →
      wSs (cxOf CX0 P w K mg base N x (defScope st) f cdv A outer s H E).nox (defBody st) (rho N ds) μ { nx := fun _ μ' => Φ .non μ', rt := Φ }) : Kn P w K mg base (k + 1) x ps S := by
  obtain ⟨f, fd, F, hm, hb⟩ := B.ex
  exact ⟨f, fd, hm, F.kp, hb, fn_ok F Sc len (body f)⟩
theorem src_mk {x : Str} {st : Stmt} {ps : List Str} {f : Addr} {oc : Value} {od an : Option Addr} {osl : Array (Option Value)} {kV doc pm cdv ct : Value} (hm : mg x = some (.ref f)) (l : K.lookup f = some ⟨oc, od, .func (PySem.W.fnOf x x (defArgs st) (defBody st) (defScope st) .none kV doc pm an cdv ct), osl⟩)
    (c : PySem.W.codeIn K cdv x = true) (k : PySem.W.keepIn K (.ref f) = true)
    (h : ∀ (kV doc pm : Value) (an : Option Addr) (cdv ct : Value) (us : List Value), us.length = ps.length → bindArgs (PySem.W.fnOf x x (defArgs st) (defBody st) (defScope st) .none kV doc pm an cdv ct) ⟨us, []⟩ = pure (ps.zip us)) : Src K mg x st ps :=
  ⟨f, _, fun_mk l c k, hm, (fun_mk l c k).binds h⟩
end
section
variable {X : Cx} {e : Expr} {es : List Expr} {st : Stmt} {sts : List Stmt} {ρ : Rho} {μ : Mu} {Φ : D → Mu → Prop} {E : En} {pos p : Pos}
theorem w_callK {x : Str} {k k0 : Nat} {ps : List Str} {S : FS} (G : Kn X.prog X.w X.K X.mg X.base k x ps S) (hr : Room k0 X.A) (h : wA X (e :: es) ρ μ fun ds μ1 => S ds μ1 Φ) (hk : k ≤ k0 := by decide) (hg : Gl X x := by rfl) (hdb : (x == ("__debug__" : Str)) = false := by decide)
    (he : starEach (e :: es) X.env = (false, eval e X.env) :: starEach es X.env := by rfl) (hpl : (backTo pos (starEach es X.env)).any (·.1) = false := by rfl) : wE X (.Call (.Name x p) (e :: es) [] pos) ρ μ Φ := by
  obtain ⟨f, fd, h1, h2, h3, h4⟩ := G.ex
  exact w_call h4 (hr.mono hk) h1 h2 h3 h hg hdb he hpl
/-- a word between a statement and the rest -/
theorem w_cut (M : Rho → Mu → Prop) (h : wS X st ρ μ { E with nx := M }) (k : ∀ ρ' μ', M ρ' μ' → wSs X sts ρ' μ' E) : wSs X (st :: sts) ρ μ E := fun F σ H hs sl D kt =>
  w_cons (E := E) (fun F σ H hs sl D kt => h F σ H hs sl _ ⟨fun F1 H1 σ1 ρ1 μ1 q e1 hs1 sl1 => kt.nx F1 H1 σ1 ρ1 μ1 (k ρ1 μ1 q) e1 hs1 sl1, kt.rt, kt.bk, kt.ct⟩) F σ H hs sl D kt
end
/-- the end: law(script) -/
def S_law : FS := fun ds μ Φ => ∃ ns : List Int, ds = [.scr (ns.map D.int)] ∧ ns.length ≤ 63 ∧ ∀ μ', Φ (.bl true) μ'
theorem law_end {K : PySem.W.Frag} {a : Addr} {ns : List Int} {H : Hp} {Q : VK} {E : XK} (hS : SqL K H a (ns.map V.int)) (hl : ns.length ≤ 63) (q : ∀ H', Q (.bl true) H') : spD K S_law [.ref a] H Q E :=
  ⟨H, [.scr (ns.map D.int)], [], fun d _ => d = .bl true, Hs.of_still, .one (.scr hS (reps_map (fun n => .int n) ns)), ⟨ns, rfl, hl, fun _ => rfl⟩, fun v F' H' d μ' h _ _ r => by subst h; cases r; exact q H'⟩
end Oc

/-! Own layer, part 5: lists of whole numbers compared. -/
namespace Oc
open PySem PySem.Spec L2
open Evl (Ex)
theorem pys_map {α : Type} {f : α → D} : ∀ l : List α, D.pys (l.map f) = l.map fun a => (f a).py
  | [] => by rw [List.map_nil, List.map_nil, D.pys]
  | a :: l => by rw [List.map_cons, List.map_cons, D.pys, pys_map l]
theorem stills_map {α : Type} {f : α → D} (h : ∀ a, (f a).still = true) : ∀ l : List α, D.stills (l.map f) = true
  | [] => by rw [List.map_nil, D.stills]
  | a :: l => by rw [List.map_cons, D.stills, h a, stills_map h l]; rfl
theorem eqvAll_ints : ∀ ns ms : List Int, PyData.eqvAll (ns.map PyData.int) (ms.map PyData.int) = decide (ns = ms)
  | [], [] => by simp [PyData.eqvAll]
  | [], _ :: _ => by simp [PyData.eqvAll]
  | _ :: _, [] => by simp [PyData.eqvAll]
  | n :: ns, m :: ms => by
    rw [List.map_cons, List.map_cons, PyData.eqvAll, PyData.eqv, eqvAll_ints ns ms, Bool.eq_iff_iff]
    simp
theorem canLay_ints : ∀ ns : List Int, PyData.canLayAll0 (ns.map PyData.int) = true
  | [] => by simp [PyData.canLayAll0]
  | n :: ns => by rw [List.map_cons, PyData.canLayAll0, PyData.canLay0, canLay_ints ns]; rfl
theorem depth_ints : ∀ ns : List Int, PyData.depthAll (ns.map PyData.int) ≤ 1
  | [] => by simp [PyData.depthAll]
  | n :: ns => by
    have h := depth_ints ns
    rw [List.map_cons, PyData.depthAll]
    simp only [PyData.depth] at *
    omega
theorem shaped_ints (ns : List Int) : SeqAt.shaped (.list (ns.map PyData.int)) = true := by
  unfold SeqAt.shaped
  have h := depth_ints ns
  rw [Bool.and_eq_true]
  refine ⟨by rw [PyData.canLay0]; exact canLay_ints ns, decide_eq_true ?_⟩
  simp only [PyData.depth]
  omega
section
variable {X : Cx} {μ : Mu} {Φ : D → Mu → Prop}
theorem py_ints (ns : List Int) : (D.lst (ns.map D.int)).py = .list (ns.map PyData.int) := by
  rw [D.py, pys_map]
  rfl
theorem o_eqIL (hu : X.A.units + 64 < cLine) (ns ms : List Int) {d1 d2 : D} (h1 : d1 = .lst (ns.map D.int)) (h2 : d2 = .lst (ms.map D.int)) (k : Φ (.bl (decide (ns = ms))) μ) : wOp X (compareOp .Eq) d1 d2 μ Φ := by
  subst h1 h2
  refine o_eqD hu (by rw [D.still]; exact stills_map (fun _ => rfl) ns) (by rw [D.still]; exact stills_map (fun _ => rfl) ms) (by rw [py_ints]; exact shaped_ints ns) (by rw [py_ints]; exact shaped_ints ms) ?_
  rw [py_ints, py_ints, PyData.eqv, eqvAll_ints]
  exact k
theorem o_neIL (hu : X.A.units + 64 < cLine) (ns ms : List Int) {d1 d2 : D} (h1 : d1 = .lst (ns.map D.int)) (h2 : d2 = .lst (ms.map D.int)) (k : Φ (.bl (!decide (ns = ms))) μ) : wOp X (compareOp .NotEq) d1 d2 μ Φ := by
  subst h1 h2
  refine o_neD hu (by rw [D.still]; exact stills_map (fun _ => rfl) ns) (by rw [D.still]; exact stills_map (fun _ => rfl) ms) (by rw [py_ints]; exact shaped_ints ns) (by rw [py_ints]; exact shaped_ints ms) ?_
  rw [py_ints, py_ints, PyData.eqv, eqvAll_ints]
  exact k
end
end Oc
namespace Oc
open PySem PySem.Spec L2
theorem wt_b {X : Cx} {e : Expr} {ρ : Rho} {μ : Mu} {ΦT : Bool → Mu → Prop} (b : Bool) (h : wT X e ρ μ fun k μ1 => k = b ∧ μ1 = μ) (q : ΦT b μ) : wT X e ρ μ ΦT := wt_mono h fun k μ1 ⟨h1, h2⟩ => by subst h1 h2; exact q
end Oc

/-! The pen of the laws k42 to k55: plain facts. -/
namespace Oc
open PySem PySem.Spec L2
/-- a pen's dict -/
def penL (ns : List Int) (a l : Int) : List (Key × D) := [(.inr "cells", .scr (ns.map D.int)), (.inr "at", .int a), (.inr "left", .int l)]
theorem k_ca : ¬ ((Sum.inr ("cells" : Str) : Key) = Sum.inr ("at" : Str)) := by decide +kernel
theorem k_cl : ¬ ((Sum.inr ("cells" : Str) : Key) = Sum.inr ("left" : Str)) := by decide +kernel
theorem k_al : ¬ ((Sum.inr ("at" : Str) : Key) = Sum.inr ("left" : Str)) := by decide +kernel
theorem k_la : ¬ ((Sum.inr ("left" : Str) : Key) = Sum.inr ("at" : Str)) := by decide +kernel
variable {ns : List Int} {a l b : Int}
theorem pen_cells : valD (penL ns a l) (.inr "cells") = some (.scr (ns.map D.int)) := valD_pos
theorem pen_at : valD (penL ns a l) (.inr "at") = some (.int a) := (valD_neg k_ca).trans valD_pos
theorem pen_left : valD (penL ns a l) (.inr "left") = some (.int l) := (valD_neg k_cl).trans ((valD_neg k_al).trans valD_pos)
theorem put_at : putD (penL ns a l) (.inr "at") (.int b) = penL ns b l := by
  unfold putD penL
  simp only [List.any_cons, List.any_nil, List.map_cons, List.map_nil, if_neg k_ca, if_neg k_la, decide_eq_false k_ca, decide_true, Bool.true_or, Bool.or_true, if_true]
theorem put_left : putD (penL ns a l) (.inr "left") (.int b) = penL ns a b := by
  unfold putD penL
  simp only [List.any_cons, List.any_nil, List.map_cons, List.map_nil, if_neg k_cl, if_neg k_al, decide_eq_false k_cl, decide_eq_false k_al, decide_true, Bool.true_or, Bool.or_true, if_true]
theorem pen_new : mergeD [] [(.inr "cells", .scr (ns.map D.int)), (.inr "at", .int a), (.inr "left", .int l)] = penL ns a l := by
  unfold mergeD
  simp only [List.foldl_cons, List.foldl_nil]
  have e1 : putD ([] : List (Key × D)) (.inr "cells") (.scr (ns.map D.int)) = [(.inr "cells", .scr (ns.map D.int))] := rfl
  rw [e1]
  unfold putD penL
  simp only [List.any_cons, List.any_nil, decide_eq_false k_ca, decide_eq_false k_cl, decide_eq_false k_al, Bool.false_or, if_neg Bool.false_ne_true, Bool.or_false, List.cons_append, List.nil_append]
/-- what a pen's cell holds, at most n numbers drawn off the cells so far -/
def PenO (ns : List Int) (n : Nat) (o : MO) : Prop := ∃ a l : Int, o = .dk (penL ns a l) ∧ 0 ≤ a ∧ a ≤ n ∧ 0 ≤ l
/-- the pen stands as cell i of the cells -/
def PenAt (ns : List Int) (n : Nat) (q : Addr) (i : Nat) (μ : Mu) : Prop := ∃ o, μ[i]? = some (q, o) ∧ PenO ns n o
/-- a number is drawn -/
def S_take : FS := fun ds μ Φ => ∃ (ns : List Int) (n : Nat) (q : Addr) (i : Nat) (many : Int), ds = [.ptr q, .int many] ∧ PenAt ns n q i μ ∧ n ≤ 1000000 ∧ ns.length ≤ 63 ∧ (0 < many ∧ many < 1000000000) ∧
  ∀ r o, 0 ≤ r → r < many → PenO ns (n + 1) o → Φ (.int r) (μ.set i (q, o))
theorem set_get {α : Type} {l : List α} {i : Nat} {x y : α} (h : l[i]? = some x) : (l.set i y)[i]? = some y := List.getElem?_set_self (List.getElem?_eq_some_iff.mp h).1
theorem PenAt.set {n m : Nat} {q : Addr} {i : Nat} {μ : Mu} {o : MO} (h : PenAt ns n q i μ) (ho : PenO ns m o) : PenAt ns m q i (μ.set i (q, o)) := by
  obtain ⟨o', h1, _⟩ := h
  exact ⟨o, set_get h1, ho⟩
theorem abs_nn (x : Int) : 0 ≤ (if x < 0 then -x else x) := by split <;> omega
end Oc

namespace L44
open PySem PySem.Spec L2 Oc
open Evl (Ex)
local macro_rules | `(tactic| walk_at "s") => `(tactic| first | assumption | omega | decide | (simp only [] at *; omega))
local macro_rules | `(tactic| walk_at "Add") => `(tactic| first | refine o_add ?_ | refine o_addS (by walk_at "s") ?_ | refine o_addT (by walk_at "s") ?_ | refine o_addL (by walk_at "s") ?_)
local macro_rules | `(tactic| walk_at "Sub") => `(tactic| refine o_sub ?_)
local macro_rules | `(tactic| walk_at "Mult") => `(tactic| refine o_mul (by walk_at "s") ?_)
local macro_rules | `(tactic| walk_at "Mod") => `(tactic| refine o_mod (by walk_at "s") ?_)
local macro_rules | `(tactic| walk_at "FloorDiv") => `(tactic| refine o_div (by walk_at "s") ?_)
local macro_rules | `(tactic| walk_at "Pow") => `(tactic| refine o_pow (by walk_at "s") ?_)
local macro_rules | `(tactic| walk_at "LShift") => `(tactic| refine o_shl (by walk_at "s") ?_)
local macro_rules | `(tactic| walk_at "RShift") => `(tactic| refine o_shr (by walk_at "s") ?_)
local macro_rules | `(tactic| walk_at "BitAnd") => `(tactic| refine o_band ?_)
local macro_rules | `(tactic| walk_at "BitXor") => `(tactic| refine o_bxor ?_)
local macro_rules | `(tactic| walk_at "BitOr") => `(tactic| refine o_bor ?_)
local macro_rules | `(tactic| walk_at "Lt") => `(tactic| refine o_lt ?_)
local macro_rules | `(tactic| walk_at "LtE") => `(tactic| refine o_le ?_)
local macro_rules | `(tactic| walk_at "Gt") => `(tactic| refine o_gt ?_)
local macro_rules | `(tactic| walk_at "GtE") => `(tactic| refine o_ge ?_)
local macro_rules | `(tactic| walk_at "Eq") => `(tactic| refine o_eq (by rfl) ?_)
local macro_rules | `(tactic| walk_at "NotEq") => `(tactic| refine o_ne (by rfl) ?_)
local macro_rules | `(tactic| walk_at "Is") => `(tactic| refine o_isN ?_)
local macro_rules | `(tactic| walk_at "IsNot") => `(tactic| refine o_notN ?_)
local macro_rules | `(tactic| walk_at "In") => `(tactic| refine o_in (by first | exact .inl rfl | exact .inr (.inl rfl) | exact .inr (.inr rfl)) (by rfl) (by rfl) ?_)
local macro_rules | `(tactic| walk_at "NotIn") => `(tactic| refine o_nin (by first | exact .inl rfl | exact .inr (.inl rfl) | exact .inr (.inr rfl)) (by rfl) (by rfl) ?_)
local macro_rules | `(tactic| walk_at "c_abs") => `(tactic| refine c_abs ?_)
local macro_rules | `(tactic| walk_at "c_len") => `(tactic| first | refine c_lenL ?_ | refine c_lenC ?_ | refine c_lenT ?_ | refine c_lenS (by walk_at "s") ?_ | refine c_lenP _ (by first | assumption | rfl) ?_)
local macro_rules | `(tactic| walk_at "c_str") => `(tactic| refine c_str (by walk_at "s") ?_)
local macro_rules | `(tactic| walk_at "c_isinstance") => `(tactic| refine c_isi rfl (by rfl) ?_)
def top (i : Nat) : Stmt := PySem.Challenge.pw_opencells_k44_pieces_and_joins.main.body.getD i (.Pass ⟨0, 0, 0, 0⟩)
abbrev s_has : Stmt := top 1
abbrev N_has : List Str := ["piece", "point", "k", "sign"]
theorem sc_has : FnScope N_has ["piece", "point"] (defScope s_has) := ⟨rfl, rfl, rfl, by decide +kernel, rfl, by decide +kernel, by decide +kernel⟩
abbrev s_join : Stmt := top 2
abbrev N_join : List Str := ["v", "one", "other", "signs", "k", "bit"]
theorem sc_join : FnScope N_join ["v", "one", "other"] (defScope s_join) := ⟨rfl, rfl, rfl, by decide +kernel, rfl, by decide +kernel, by decide +kernel⟩
abbrev s__law_pen : Stmt := top 4
abbrev N__law_pen : List Str := ["_law_script"]
theorem sc__law_pen : FnScope N__law_pen ["_law_script"] (defScope s__law_pen) := ⟨rfl, rfl, rfl, by decide +kernel, rfl, by decide +kernel, by decide +kernel⟩
abbrev s__law_take : Stmt := top 5
abbrev N__law_take : List Str := ["_law_pen_here", "_law_many", "_law_digit", "_law_at", "_law_cell", "_law_prime", "_law_number"]
theorem sc__law_take : FnScope N__law_take ["_law_pen_here", "_law_many"] (defScope s__law_take) := ⟨rfl, rfl, rfl, by decide +kernel, rfl, by decide +kernel, by decide +kernel⟩
abbrev s__law_bit : Stmt := top 6
abbrev N__law_bit : List Str := ["_law_point", "_law_k"]
theorem sc__law_bit : FnScope N__law_bit ["_law_point", "_law_k"] (defScope s__law_bit) := ⟨rfl, rfl, rfl, by decide +kernel, rfl, by decide +kernel, by decide +kernel⟩
abbrev s__law_piece : Stmt := top 7
abbrev N__law_piece : List Str := ["_law_pen_here", "_law_v", "_law_signs", "_law_k"]
theorem sc__law_piece : FnScope N__law_piece ["_law_pen_here", "_law_v"] (defScope s__law_piece) := ⟨rfl, rfl, rfl, by decide +kernel, rfl, by decide +kernel, by decide +kernel⟩
abbrev s__law_piece_right : Stmt := top 8
abbrev N__law_piece_right : List Str := ["_law_v", "_law_piece_here", "_law_point", "_law_due", "_law_k", "_law_found"]
theorem sc__law_piece_right : FnScope N__law_piece_right ["_law_v", "_law_piece_here"] (defScope s__law_piece_right) := ⟨rfl, rfl, rfl, by decide +kernel, rfl, by decide +kernel, by decide +kernel⟩
abbrev s__law_join_right : Stmt := top 9
abbrev N__law_join_right : List Str := ["_law_v", "_law_one", "_law_other", "_law_found", "_law_k", "_law_due", "_law_point", "_law_strange"]
theorem sc__law_join_right : FnScope N__law_join_right ["_law_v", "_law_one", "_law_other"] (defScope s__law_join_right) := ⟨rfl, rfl, rfl, by decide +kernel, rfl, by decide +kernel, by decide +kernel⟩
abbrev s_law : Stmt := top 10
abbrev N_law : List Str := ["_law_script", "_law_pen_here", "_law_turn", "_law_v", "_law_near", "_law_one", "_law_other", "_law_alone", "_law_point"]
theorem sc_law : FnScope N_law ["_law_script"] (defScope s_law) := ⟨rfl, rfl, rfl, by decide +kernel, rfl, by decide +kernel, by decide +kernel⟩
/-- the built-in names that the text has not taken -/
structure Tx (mg : Str → Option Value) : Prop where
  b_enumerate : mg "enumerate" = none
  b_range : mg "range" = none
  b_len : mg "len" = none
  b_isinstance : mg "isinstance" = none
  b_str : mg "str" = none
  b_abs : mg "abs" = none
  b_bool : mg "bool" = none
/-! ### plain facts -/
/-- a text by its signs -/
def sl (l : List Nat) : Str := ⟨l.toArray⟩
theorem str_inj {a b : Str} : (a = b) ↔ a.cps.toList = b.cps.toList := by
  cases a with | mk a => cases b with | mk b => simp [Array.toList_inj]
theorem join_nil : ∀ ys : List Str, (Txt.join ("" : Str) ys).cps.toList = ys.flatMap fun y => y.cps.toList := by
  intro ys
  have e : Txt.join ("" : Str) ys = Str.join ("" : Str) ys := StrLaws.glued_eq_join _ _
  have h0 : ("" : Str).cps.toList = [] := by decide +kernel
  rw [e]
  clear e
  induction ys with
  | nil => rfl
  | cons y r ih =>
    cases r with
    | nil => show y.cps.toList = _; simp
    | cons z r =>
      show (y ++ ("" : Str) ++ Str.join ("" : Str) (z :: r)).cps.toList = _
      rw [List.flatMap_cons, ← ih]
      show ((y.cps ++ ("" : Str).cps) ++ (Str.join ("" : Str) (z :: r)).cps).toList = _
      rw [Array.toList_append, Array.toList_append, h0, List.append_nil]
def bitAt (p : Int) (k : Nat) : Int := p / 2 ^ k % 2
theorem bitAt_01 (p : Int) (k : Nat) : bitAt p k = 0 ∨ bitAt p k = 1 := by unfold bitAt; omega
/-- the sign of a bit -/
def dig (b : Int) : Nat := 48 + b.toNat
def okAt (z : List Nat) (p : Int) (k : Nat) : Bool := z.getD k 0 == 45 || z.getD k 0 == dig (bitAt p k)
def hasB (z : List Nat) (p : Int) : Bool := (List.range z.length).all fun k => okAt z p k
def joinL (v : Nat) (a b : Int) : List Nat := (List.range v).map fun k => if bitAt a k = bitAt b k then dig (bitAt a k) else 45
theorem dig_inj {a b : Int} (ha : a = 0 ∨ a = 1) (hb : b = 0 ∨ b = 1) : (dig a = dig b) ↔ a = b := by
  unfold dig; rcases ha with rfl | rfl <;> rcases hb with rfl | rfl <;> decide
theorem dig_ne {a : Int} (ha : a = 0 ∨ a = 1) : dig a ≠ 45 := by
  unfold dig; rcases ha with rfl | rfl <;> decide
theorem toNat_natCast' (k : Nat) : ((k : Nat) : Int).toNat = k := Int.toNat_natCast k
theorem beq_sym (a b : Nat) : (a == b) = (b == a) := by rw [Bool.eq_iff_iff, beq_iff_eq, beq_iff_eq]; exact eq_comm
/-- in a pair of signs -/
theorem inV_2 (x a b : Nat) : inV (.str ⟨#[x]⟩) [.str ⟨#[a]⟩, .str ⟨#[b]⟩] = (a == x || b == x) := by
  have e : ∀ c : Nat, eqV (.str ⟨#[c]⟩) (.str ⟨#[x]⟩) = (c == x) := fun c => by
    show ((⟨#[c]⟩ : Str) == ⟨#[x]⟩) = _
    rw [Bool.eq_iff_iff]
    simp
  show ((eqV (.str ⟨#[a]⟩) (.str ⟨#[x]⟩)) || ((eqV (.str ⟨#[b]⟩) (.str ⟨#[x]⟩)) || false)) = _
  rw [e, e, Bool.or_false]
theorem s_minus : ("-" : Str) = ⟨#[45]⟩ := by decide +kernel
theorem s_01 : ("01" : Str) = ⟨#[48, 49]⟩ := by decide +kernel
/-- the sign of "01" at a bit -/
theorem at_01 {b : Int} (hb : b = 0 ∨ b = 1) : b = ((b.toNat : Nat) : Int) ∧ ("01" : Str).cps.toList[b.toNat]? = some (dig b) := by
  rw [s_01]
  rcases hb with rfl | rfl <;> exact ⟨rfl, rfl⟩
/-! ### has, join -/
def S_has : FS := fun ds μ Φ => ∃ (z : Str) (p : Int), ds = [.str z, .int p] ∧ Φ (.bl (hasB z.cps.toList p)) μ
def S_join : FS := fun ds μ Φ => ∃ (v : Nat) (a b : Int), ds = [.int v, .int a, .int b] ∧ v ≤ 1000 ∧ Φ (.str (sl (joinL v a b))) μ
def S_bit : FS := fun ds μ Φ => ∃ (k : Nat) (p : Int), ds = [.int p, .int k] ∧ k ≤ 20 ∧ Φ (.int (bitAt p k)) μ
section
variable {P : Program} {w : World} {K : PySem.W.Frag} {mg : Str → Option Value} {base : Heap}
theorem ok_has (B : Src K mg "has" s_has ["piece", "point"]) (T : Tx mg) : Kn P w K mg base 1 "has" ["piece", "point"] S_has := by
  refine kn_of B sc_has (fun ds μ Φ h => by obtain ⟨_, _, rfl, _⟩ := h; rfl) fun f cdv A outer s H E hr ds μ Φ h => ?_
  obtain ⟨z, p, rfl, q⟩ := h
  refine w_cons (w_for ?_ PassesOwn.never rfl)
  refine wi_enumS T.b_enumerate ?_
  refine w_name 0 rfl (.inl rfl) rfl ?_
  refine ⟨_, rfl, ?_⟩
  refine ⟨fun i ρ' μ' => μ' = μ ∧ (∃ a b, ρ' = [some (.str z), some (.int p), a, b]) ∧ ∀ k, k < i → okAt z.cps.toList p k = true, ⟨rfl, ⟨_, _, rfl⟩, fun k hk => absurd hk (Nat.not_lt_zero k)⟩, ?_, ?_⟩
  · rintro i x ρ' μ' hx ⟨rfl, ⟨a, b, rfl⟩, hI⟩
    obtain ⟨c, hc, rfl⟩ := enumS_get hx
    refine wg_tup rfl rfl ?_
    refine wgs_cons ?_
    refine wg_name 2 sc_has.nd rfl (.inl rfl) (.inl rfl) ?_
    refine wgs_cons ?_
    refine wg_name 3 sc_has.nd rfl (.inl rfl) (.inl rfl) ?_
    refine wgs_nil ?_
    refine w_cons (w_if ?_)
    refine wt_cmp ?_
    refine w_name 3 rfl (.inl rfl) rfl ?_
    refine w_tup ?_
    refine wa_cons ?_
    refine w_str ?_
    refine wa_cons ?_
    refine w_ix ?_
    refine w_str ?_
    refine w_bin ?_
    refine w_bin ?_
    refine w_name 1 rfl (.inl rfl) rfl ?_
    refine w_name 2 rfl (.inl rfl) rfl ?_
    walk_at "RShift"
    refine w_int ?_
    walk_at "BitAnd"
    have eb : Builtin.bitAnd (p / 2 ^ ((i : Nat) : Int).toNat) 1 = bitAt p i := by
      rw [PyProof.Rows.bitAnd_m1, toNat_natCast']; rfl
    rw [eb]
    obtain ⟨e1, e2⟩ := at_01 (bitAt_01 p i)
    refine ix_strD _ e1 (by decide +kernel) e2 ?_
    refine wa_nil ?_
    refine ⟨by simp, ?_⟩
    walk_at "NotIn"
    refine ⟨_, rfl, ?_⟩
    have hcz : z.cps.toList.getD i 0 = c := by
      rw [List.getD_eq_getElem?_getD, Array.getElem?_toList, hc]; rfl
    have ein : inV (.str ⟨#[c]⟩) [.str ("-" : Str), .str ⟨#[dig (bitAt p i)]⟩] = okAt z.cps.toList p i := by
      rw [s_minus, inV_2]
      unfold okAt
      rw [hcz, beq_sym 45, beq_sym (dig _)]
    rw [ein]
    refine ⟨fun hb => ?_, fun hb => ?_⟩
    · refine w_cons (w_ret ?_)
      refine w_bl ?_
      have hf : hasB z.cps.toList p = false := by
        unfold hasB
        rw [List.all_eq_false]
        refine ⟨i, ?_, ?_⟩
        · rw [List.mem_range, Array.length_toList]; exact (Array.getElem?_eq_some_iff.mp hc).1
        · rw [Bool.not_eq_true'] at hb; rw [hb]; exact Bool.false_ne_true
      rw [hf] at q
      exact q
    · refine w_nil ?_
      refine w_nil ?_
      refine ⟨rfl, ⟨_, _, rfl⟩, fun k hk => ?_⟩
      by_cases hki : k = i
      · subst hki; simpa using hb
      · exact hI k (by omega)
  · rintro ρ' μ' ⟨rfl, ⟨a, b, rfl⟩, hI⟩
    refine w_cons (w_ret ?_)
    refine w_bl ?_
    have hf : hasB z.cps.toList p = true := by
      unfold hasB
      rw [List.all_eq_true]
      intro k hk
      rw [List.mem_range, Array.length_toList] at hk
      exact hI k (by rw [enumS_len]; exact hk)
    rw [hf] at q
    exact q
theorem ok_join (B : Src K mg "join" s_join ["v", "one", "other"]) (T : Tx mg) : Kn P w K mg base 1 "join" ["v", "one", "other"] S_join := by
  refine kn_of B sc_join (fun ds μ Φ h => by obtain ⟨_, _, _, rfl, _⟩ := h; rfl) fun f cdv A outer s H E hr ds μ Φ h => ?_
  obtain ⟨v, a, b, rfl, hv, q⟩ := h
  refine w_cons (w_set 3 sc_join.nd rfl (.inl rfl) (.inl rfl) ?_)
  refine w_lstM ?_
  refine wa_nil ⟨by decide, fun l => ?_⟩
  refine w_cons (w_for ?_ PassesOwn.never rfl)
  refine wi_rng1 T.b_range ?_
  refine w_name 0 rfl (.inl rfl) rfl ?_
  refine ⟨_, rfl, by omega, ?_⟩
  refine ⟨fun i ρ' μ' => μ' = (l, .lst (((joinL v a b).take i).map fun c => .str ⟨#[c]⟩)) :: μ ∧ ∃ x y, ρ' = [some (.int v), some (.int a), some (.int b), some (.ptr l), x, y], ⟨rfl, _, _, rfl⟩, ?_, ?_⟩
  · rintro i x ρ' μ' hx ⟨rfl, ⟨y1, y2, rfl⟩⟩
    obtain ⟨hi, rfl⟩ := rngD_get hx
    rw [toNat_natCast'] at hi
    rw [Int.zero_add]
    refine wg_name 4 sc_join.nd rfl (.inl rfl) (.inl rfl) ?_
    refine w_cons (w_set 5 sc_join.nd rfl (.inl rfl) (.inl rfl) ?_)
    refine w_bin ?_
    refine w_bin ?_
    refine w_name 1 rfl (.inl rfl) rfl ?_
    refine w_name 4 rfl (.inl rfl) rfl ?_
    walk_at "RShift"
    refine w_int ?_
    walk_at "BitAnd"
    have eb : ∀ p : Int, Builtin.bitAnd (p / 2 ^ ((i : Nat) : Int).toNat) 1 = bitAt p i := fun p => by
      rw [PyProof.Rows.bitAnd_m1, toNat_natCast']; rfl
    rw [eb]
    have hl : (joinL v a b).length = v := by unfold joinL; simp
    have hg : (joinL v a b)[i]? = some (if bitAt a i = bitAt b i then dig (bitAt a i) else 45) := by
      unfold joinL
      rw [List.getElem?_map, List.getElem?_range hi]
      rfl
    refine w_cons (w_if ?_)
    refine wt_cmp ?_
    refine w_name 5 rfl (.inl rfl) rfl ?_
    refine w_bin ?_
    refine w_bin ?_
    refine w_name 2 rfl (.inl rfl) rfl ?_
    refine w_name 4 rfl (.inl rfl) rfl ?_
    walk_at "RShift"
    refine w_int ?_
    walk_at "BitAnd"
    rw [eb]
    walk_at "Eq"
    refine ⟨_, rfl, ?_⟩
    refine ⟨fun hb => ?_, fun hb => ?_⟩
    · have he : bitAt a i = bitAt b i := by simpa [D.eqf] using hb
      refine w_cons (w_expr ?_)
      refine w_append ?_
      refine w_name 3 rfl (.inl rfl) rfl ?_
      refine ⟨.inl ⟨rfl, 0, _, rfl⟩, ?_⟩
      refine wa_cons ?_
      refine w_ix ?_
      refine w_str ?_
      refine w_name 5 rfl (.inl rfl) rfl ?_
      obtain ⟨e1, e2⟩ := at_01 (bitAt_01 a i)
      refine ix_strD _ e1 (by decide +kernel) e2 ?_
      refine wa_nil ?_
      refine m_append 0 rfl (by rw [List.length_map, List.length_take]; omega) ?_
      refine w_nil (w_nil ⟨?_, _, _, rfl⟩)
      rw [List.take_add_one, hg, if_pos he, List.map_append]
      rfl
    · have he : ¬ bitAt a i = bitAt b i := by simpa [D.eqf] using hb
      refine w_cons (w_expr ?_)
      refine w_append ?_
      refine w_name 3 rfl (.inl rfl) rfl ?_
      refine ⟨.inl ⟨rfl, 0, _, rfl⟩, ?_⟩
      refine wa_cons ?_
      refine w_str ?_
      refine wa_nil ?_
      refine m_append 0 rfl (by rw [List.length_map, List.length_take]; omega) ?_
      refine w_nil (w_nil ⟨?_, _, _, rfl⟩)
      rw [List.take_add_one, hg, if_neg he, List.map_append, s_minus]
      rfl
  · rintro ρ' μ' ⟨rfl, ⟨y1, y2, rfl⟩⟩
    rw [rngD_len, toNat_natCast']
    refine w_cons (w_ret (w_dr ?_))
    refine w_join ?_
    refine w_str ?_
    refine ⟨rfl, ?_⟩
    refine w_name 3 rfl (.inl rfl) rfl ?_
    have hl : (joinL v a b).length = v := by unfold joinL; simp
    have ht : (joinL v a b).take v = joinL v a b := List.take_of_length_le (by omega)
    rw [ht]
    refine m_join (ys := (joinL v a b).map fun c => (⟨#[c]⟩ : Str)) (.inr ⟨0, l, rfl, by rw [List.map_map]; rfl⟩) ?_ ?_
    · have e0 : ("" : Str).length = 0 := by decide +kernel
      rw [e0, Nat.mul_zero, Nat.add_zero, List.map_map]
      have : ((joinL v a b).map ((fun x => x.length) ∘ fun c => (⟨#[c]⟩ : Str))).sum = (joinL v a b).length := by
        generalize joinL v a b = l
        induction l with
        | nil => rfl
        | cons x r ih => rw [List.map_cons, List.sum_cons, ih, List.length_cons]; show 1 + _ = _; omega
      rw [this, hl]; omega
    · have e : Txt.join ("" : Str) ((joinL v a b).map fun c => (⟨#[c]⟩ : Str)) = sl (joinL v a b) := by
        rw [str_inj, join_nil]
        unfold sl
        rw [List.flatMap_map]
        simp
      rw [e]
      exact ⟨μ, List.sublist_cons_self _ _, q⟩
end
/-! ### the pen -/
def S_pen : FS := fun ds μ Φ => ∃ ns : List Int, ds = [.scr (ns.map D.int)] ∧ ∀ q, Φ (.ptr q) ((q, .dk (penL ns 0 0)) :: μ)
section
variable {P : Program} {w : World} {K : PySem.W.Frag} {mg : Str → Option Value} {base : Heap}
theorem ok_pen (B : Src K mg "_law_pen" s__law_pen ["_law_script"]) (T : Tx mg) : Kn P w K mg base 1 "_law_pen" ["_law_script"] S_pen := by
  refine kn_of B sc__law_pen (fun ds μ Φ h => by obtain ⟨_, rfl, _⟩ := h; rfl) fun f cdv A outer s H E hr ds μ Φ h => ?_
  obtain ⟨ns, rfl, q⟩ := h
  refine w_cons (w_ret ?_)
  refine w_disp (by decide) (by decide) (by decide) (by decide) fun q => ?_
  refine w_str ?_
  refine w_name 0 rfl (.inl rfl) rfl ?_
  refine w_str ?_
  refine w_int ?_
  refine w_str ?_
  refine w_int ?_
  refine ⟨[(.inr "cells", .scr (ns.map D.int)), (.inr "at", .int 0), (.inr "left", .int 0)], μ, rfl, by simp, rfl, ?_⟩
  rename_i q0
  rw [pen_new]
  exact q0 q
theorem mulBound {x a : Int} (h0 : 0 ≤ x) (h1 : x < 2147483647) (h2 : 0 ≤ a) (h3 : a ≤ 1000000) : 0 ≤ x * (a + 3) ∧ x * (a + 3) ≤ 2147483647 * 1000003 :=
  ⟨Int.mul_nonneg h0 (by omega), Int.mul_le_mul (by omega) (by omega) (by omega) (by omega)⟩
theorem ok_take (B : Src K mg "_law_take" s__law_take ["_law_pen_here", "_law_many"]) (T : Tx mg) : Kn P w K mg base 1 "_law_take" ["_law_pen_here", "_law_many"] S_take := by
  refine kn_of B sc__law_take (fun ds μ Φ h => by obtain ⟨_, _, _, _, _, rfl, _⟩ := h; rfl) fun f cdv A outer s H E hr ds μ Φ h => ?_
  obtain ⟨ns, n, q, i, many, rfl, ⟨o, hm, a, l, rfl, ha0, han, hl0⟩, hn, hns, hmany, k⟩ := h
  have hu := hu_of hr
  have h3 : ∀ a l : Int, (penL ns a l).length < 1000000 := fun a l => by show 3 < 1000000; decide
  refine w_cons (w_if ?_)
  refine wt_cmp ?_
  refine w_dget hu ?_
  refine w_name 0 rfl (.inl rfl) rfl ?_
  refine w_str ?_
  refine ⟨_, _, _, .inr "left", _, rfl, rfl, hm, pen_left, ?_⟩
  refine w_int ?_
  walk_at "Gt"
  refine ⟨_, rfl, ?_⟩
  refine ⟨fun hb => ?_, fun hb => ?_⟩
  · -- then
    refine w_cons (w_set 2 sc__law_take.nd rfl (.inl rfl) (.inl rfl) ?_)
    refine w_bin ?_
    refine w_dget hu ?_
    refine w_name 0 rfl (.inl rfl) rfl ?_
    refine w_str ?_
    refine ⟨_, _, _, .inr "left", _, rfl, rfl, hm, pen_left, ?_⟩
    refine w_name 1 rfl (.inl rfl) rfl ?_
    walk_at "Mod"
    refine w_cons (w_dput hu ?_)
    refine w_bin ?_
    refine w_dget hu ?_
    refine w_name 0 rfl (.inl rfl) rfl ?_
    refine w_str ?_
    refine ⟨_, _, _, .inr "left", _, rfl, rfl, hm, pen_left, ?_⟩
    refine w_name 1 rfl (.inl rfl) rfl ?_
    walk_at "FloorDiv"
    refine w_name 0 rfl (.inl rfl) rfl ?_
    refine w_str ?_
    refine ⟨_, _, _, .inr "left", rfl, rfl, hm, h3 _ _, ?_⟩
    rw [put_left]
    refine w_cons (w_ret ?_)
    refine w_name 2 rfl (.inl rfl) rfl ?_
    exact k _ _ (Int.emod_nonneg _ (by omega)) (Int.emod_lt_of_pos _ (by omega)) ⟨_, _, rfl, by omega, by omega, Int.ediv_nonneg hl0 (by omega)⟩
  refine w_nil ?_
  refine w_cons (w_set 3 sc__law_take.nd rfl (.inl rfl) (.inl rfl) ?_)
  refine w_dget hu ?_
  refine w_name 0 rfl (.inl rfl) rfl ?_
  refine w_str ?_
  refine ⟨_, _, _, .inr "at", _, rfl, rfl, hm, pen_at, ?_⟩
  refine w_cons (w_dput hu ?_)
  refine w_bin ?_
  refine w_name 3 rfl (.inl rfl) rfl ?_
  refine w_int ?_
  walk_at "Add"
  refine w_name 0 rfl (.inl rfl) rfl ?_
  refine w_str ?_
  refine ⟨_, _, _, .inr "at", rfl, rfl, hm, h3 _ _, ?_⟩
  rw [put_at]
  have hm2 := set_get (y := (q, MO.dk (penL ns (a + 1) l))) hm
  refine w_cons (w_set 4 sc__law_take.nd rfl (.inl rfl) (.inl rfl) ?_)
  refine w_bin ?_
  refine w_bin ?_
  refine w_bin ?_
  refine w_int ?_
  refine w_name 3 rfl (.inl rfl) rfl ?_
  walk_at "Mult"
  refine w_name 3 rfl (.inl rfl) rfl ?_
  walk_at "Mult"
  refine w_int ?_
  walk_at "Add"
  refine w_cut (fun ρ' μ' => (∃ c : Int, ρ' = [some (.ptr q), some (.int many), none, some (.int a), some (.int c), none, none]) ∧ μ' = μ.set i (q, MO.dk (penL ns (a + 1) l))) (w_if ?_) ?_
  · refine wt_cmp ?_
    refine w_callB (id := "len") T.b_len ?_
    refine wa_cons ?_
    refine w_dget hu ?_
    refine w_name 0 rfl (.inl rfl) rfl ?_
    refine w_str ?_
    refine ⟨_, _, _, .inr "cells", _, rfl, rfl, hm2, pen_cells, ?_⟩
    refine wa_nil ?_
    walk_at "c_len"
    refine w_int ?_
    walk_at "Gt"
    refine ⟨_, rfl, ?_⟩
    refine ⟨fun hb2 => ?_, fun hb2 => ?_⟩
    · -- then
      have hpos : 0 < ns.length := by
        have := of_decide_eq_true hb2
        rw [List.length_map] at this
        omega
      refine w_cons (w_set 4 sc__law_take.nd rfl (.inl rfl) (.inl rfl) ?_)
      refine w_ix ?_
      refine w_dget hu ?_
      refine w_name 0 rfl (.inl rfl) rfl ?_
      refine w_str ?_
      refine ⟨_, _, _, .inr "cells", _, rfl, rfl, hm2, pen_cells, ?_⟩
      refine w_bin ?_
      refine w_name 3 rfl (.inl rfl) rfl ?_
      refine w_callB (id := "len") T.b_len ?_
      refine wa_cons ?_
      refine w_dget hu ?_
      refine w_name 0 rfl (.inl rfl) rfl ?_
      refine w_str ?_
      refine ⟨_, _, _, .inr "cells", _, rfl, rfl, hm2, pen_cells, ?_⟩
      refine wa_nil ?_
      walk_at "c_len"
      rw [List.length_map]
      walk_at "Mod"
      have hr0 : 0 ≤ a % (ns.length : Int) := Int.emod_nonneg _ (by omega)
      have hr1 : a % (ns.length : Int) < ns.length := Int.emod_lt_of_pos _ (by omega)
      have hlt : (a % (ns.length : Int)).toNat < ns.length := by omega
      refine ix_scrD (a % (ns.length : Int)).toNat (Int.toNat_of_nonneg hr0).symm (by rw [List.getElem?_map, List.getElem?_eq_getElem hlt]; rfl) ?_
      generalize ns[(a % (ns.length : Int)).toNat] = c
      refine w_cons (w_if ?_)
      refine wt_w ?_
      refine ww_and ?_
      refine wt_cmp ?_
      refine w_name 3 rfl (.inl rfl) rfl ?_
      refine w_callB (id := "len") T.b_len ?_
      refine wa_cons ?_
      refine w_dget hu ?_
      refine w_name 0 rfl (.inl rfl) rfl ?_
      refine w_str ?_
      refine ⟨_, _, _, .inr "cells", _, rfl, rfl, hm2, pen_cells, ?_⟩
      refine wa_nil ?_
      walk_at "c_len"
      walk_at "Lt"
      refine ⟨_, rfl, ?_⟩
      have other : wSs (cxOf CX0 P w K mg base ["_law_pen_here", "_law_many", "_law_digit", "_law_at", "_law_cell", "_law_prime", "_law_number"] "_law_take" (defScope s__law_take) f cdv A outer s H E).nox [] [some (.ptr q), some (.int many), none, some (.int a), some (.int c), none, none] (μ.set i (q, MO.dk (penL ns (a + 1) l)))
          { nx := fun ρ' μ' => (∃ c : Int, ρ' = [some (.ptr q), some (.int many), none, some (.int a), some (.int c), none, none]) ∧ μ' = μ.set i (q, MO.dk (penL ns (a + 1) l)), rt := Φ } := w_nil ⟨⟨_, rfl⟩, rfl⟩
      refine ⟨fun hb0 => ?_, fun hb0 => ⟨fun z => (nomatch z), fun _ => w_nil other⟩⟩
      refine ww_and1 ?_
      refine wt_cmp ?_
      refine w_callB (id := "abs") T.b_abs ?_
      refine wa_cons ?_
      refine w_name 4 rfl (.inl rfl) rfl ?_
      refine wa_nil ?_
      walk_at "c_abs"
      refine w_bin ?_
      refine w_int ?_
      refine w_int ?_
      walk_at "Pow"
      walk_at "GtE"
      refine ⟨_, rfl, ?_⟩
      have habs := abs_nn c
      refine ⟨fun hb => ?_, fun hb => w_nil other⟩
      refine w_cons (w_dput hu ?_)
      refine w_bin ?_
      refine w_callB (id := "abs") T.b_abs ?_
      refine wa_cons ?_
      refine w_name 4 rfl (.inl rfl) rfl ?_
      refine wa_nil ?_
      walk_at "c_abs"
      refine w_name 1 rfl (.inl rfl) rfl ?_
      walk_at "FloorDiv"
      refine w_name 0 rfl (.inl rfl) rfl ?_
      refine w_str ?_
      refine ⟨_, _, _, .inr "left", rfl, rfl, hm2, h3 _ _, ?_⟩
      have es : (μ.set i (q, MO.dk (penL ns (a + 1) l))).set i (q, MO.dk (penL ns (a + 1) ((if c < 0 then -c else c) / many))) = μ.set i (q, MO.dk (penL ns (a + 1) ((if c < 0 then -c else c) / many))) := by rw [List.set_set]
      rw [put_left, es]
      refine w_cons (w_ret ?_)
      refine w_bin ?_
      refine w_callB (id := "abs") T.b_abs ?_
      refine wa_cons ?_
      refine w_name 4 rfl (.inl rfl) rfl ?_
      refine wa_nil ?_
      walk_at "c_abs"
      refine w_name 1 rfl (.inl rfl) rfl ?_
      walk_at "Mod"
      exact k _ (.dk (penL ns (a + 1) ((if c < 0 then -c else c) / many))) (Int.emod_nonneg _ (by omega)) (Int.emod_lt_of_pos _ (by omega)) ⟨a + 1, (if c < 0 then -c else c) / many, rfl, by omega, by omega, Int.ediv_nonneg habs (by omega)⟩
    · exact w_nil ⟨⟨_, rfl⟩, rfl⟩
  · rintro ρ' μ' ⟨⟨c, rfl⟩, rfl⟩
    refine w_cons (w_set 5 sc__law_take.nd rfl (.inl rfl) (.inl rfl) ?_)
    refine w_ix ?_
    refine w_tup ?_
    refine wa_cons ?_
    refine w_int ?_
    refine wa_cons ?_
    refine w_int ?_
    refine wa_cons ?_
    refine w_int ?_
    refine wa_cons ?_
    refine w_int ?_
    refine wa_cons ?_
    refine w_int ?_
    refine wa_cons ?_
    refine w_int ?_
    refine wa_cons ?_
    refine w_int ?_
    refine wa_nil ?_
    refine ⟨by simp, ?_⟩
    refine w_bin ?_
    refine w_name 3 rfl (.inl rfl) rfl ?_
    refine w_int ?_
    walk_at "Mod"
    obtain ⟨p, hp, hd⟩ : ∃ p : Int, (0 < p ∧ p ≤ 2147483647) ∧ [D.int 2147483647, .int 2147483629, .int 2147483587, .int 2147483579, .int 2147483563, .int 2147483549, .int 2147483543][(a % 7).toNat]? = some (.int p) := by
      have : (a % 7).toNat < 7 := by omega
      generalize (a % 7).toNat = j at this
      match j, this with
      | 0, _ => exact ⟨_, by decide, rfl⟩
      | 1, _ => exact ⟨_, by decide, rfl⟩
      | 2, _ => exact ⟨_, by decide, rfl⟩
      | 3, _ => exact ⟨_, by decide, rfl⟩
      | 4, _ => exact ⟨_, by decide, rfl⟩
      | 5, _ => exact ⟨_, by decide, rfl⟩
      | 6, _ => exact ⟨_, by decide, rfl⟩
    refine ix_tupD (a % 7).toNat (by omega) hd ?_
    refine w_cons (w_set 6 sc__law_take.nd rfl (.inl rfl) (.inl rfl) ?_)
    refine w_bin ?_
    refine w_bin ?_
    refine w_bin ?_
    refine w_bin ?_
    refine w_bin ?_
    refine w_name 4 rfl (.inl rfl) rfl ?_
    refine w_int ?_
    walk_at "Mod"
    refine w_bin ?_
    refine w_int ?_
    refine w_name 3 rfl (.inl rfl) rfl ?_
    walk_at "Mult"
    walk_at "Add"
    refine w_int ?_
    walk_at "Add"
    refine w_int ?_
    walk_at "Pow"
    refine w_name 5 rfl (.inl rfl) rfl ?_
    walk_at "Mod"
    have hx0 := Int.emod_nonneg ((c % 2147483497 + 69621 * a + 7) ^ (3 : Int).toNat) (show p ≠ 0 by omega)
    have hx1 := Int.emod_lt_of_pos ((c % 2147483497 + 69621 * a + 7) ^ (3 : Int).toNat) hp.1
    generalize (c % 2147483497 + 69621 * a + 7) ^ (3 : Int).toNat % p = x at hx0 hx1
    have hb := mulBound hx0 (by omega) ha0 (by omega)
    refine w_cons (w_set 6 sc__law_take.nd rfl (.inl rfl) (.inl rfl) ?_)
    refine w_bin ?_
    refine w_bin ?_
    refine w_bin ?_
    refine w_bin ?_
    refine w_name 6 rfl (.inl rfl) rfl ?_
    refine w_bin ?_
    refine w_name 3 rfl (.inl rfl) rfl ?_
    refine w_int ?_
    walk_at "Add"
    walk_at "Mult"
    refine w_int ?_
    walk_at "Add"
    refine w_int ?_
    walk_at "Pow"
    refine w_int ?_
    walk_at "Mod"
    refine w_cons (w_ret ?_)
    refine w_bin ?_
    refine w_bin ?_
    refine w_name 6 rfl (.inl rfl) rfl ?_
    refine w_int ?_
    walk_at "FloorDiv"
    refine w_name 1 rfl (.inl rfl) rfl ?_
    walk_at "Mod"
    exact k _ (.dk (penL ns (a + 1) l)) (Int.emod_nonneg _ (by omega)) (Int.emod_lt_of_pos _ (by omega)) ⟨a + 1, l, rfl, by omega, by omega, hl0⟩
theorem ok_bit (B : Src K mg "_law_bit" s__law_bit ["_law_point", "_law_k"]) (T : Tx mg) : Kn P w K mg base 1 "_law_bit" ["_law_point", "_law_k"] S_bit := by
  refine kn_of B sc__law_bit (fun ds μ Φ h => by obtain ⟨_, _, rfl, _⟩ := h; rfl) fun f cdv A outer s H E hr ds μ Φ h => ?_
  obtain ⟨j, p, rfl, hj, q⟩ := h
  have e1 : (1 : Int) * 2 ^ ((j : Nat) : Int).toNat = ((2 ^ j : Nat) : Int) := by rw [toNat_natCast', Int.one_mul]; simp
  have e2 : 2 ^ j ≤ 2 ^ 20 := Nat.pow_le_pow_right (by decide) hj
  have e3 : 0 < 2 ^ j := Nat.pow_pos (by decide)
  refine w_cons (w_ret ?_)
  refine w_bin ?_
  refine w_bin ?_
  refine w_name 0 rfl (.inl rfl) rfl ?_
  refine w_bin ?_
  refine w_int ?_
  refine w_name 1 rfl (.inl rfl) rfl ?_
  walk_at "LShift"
  rw [e1]
  refine o_div (by omega) ?_
  refine w_int ?_
  walk_at "Mod"
  have e4 : p / ((2 ^ j : Nat) : Int) % 2 = bitAt p j := by unfold bitAt; simp
  rw [e4]
  exact q
end
end L44

namespace L44
open PySem PySem.Spec L2 Oc
open Evl (Ex)
local macro_rules | `(tactic| walk_at "s") => `(tactic| first | assumption | omega | decide | (simp only [] at *; omega))
local macro_rules | `(tactic| walk_at "Add") => `(tactic| first | refine o_add ?_ | refine o_addS (by walk_at "s") ?_ | refine o_addT (by walk_at "s") ?_ | refine o_addL (by walk_at "s") ?_)
local macro_rules | `(tactic| walk_at "Sub") => `(tactic| refine o_sub ?_)
local macro_rules | `(tactic| walk_at "Mult") => `(tactic| refine o_mul (by walk_at "s") ?_)
local macro_rules | `(tactic| walk_at "Mod") => `(tactic| refine o_mod (by walk_at "s") ?_)
local macro_rules | `(tactic| walk_at "FloorDiv") => `(tactic| refine o_div (by walk_at "s") ?_)
local macro_rules | `(tactic| walk_at "Pow") => `(tactic| refine o_pow (by walk_at "s") ?_)
local macro_rules | `(tactic| walk_at "LShift") => `(tactic| refine o_shl (by walk_at "s") ?_)
local macro_rules | `(tactic| walk_at "RShift") => `(tactic| refine o_shr (by walk_at "s") ?_)
local macro_rules | `(tactic| walk_at "BitAnd") => `(tactic| refine o_band ?_)
local macro_rules | `(tactic| walk_at "BitXor") => `(tactic| refine o_bxor ?_)
local macro_rules | `(tactic| walk_at "BitOr") => `(tactic| refine o_bor ?_)
local macro_rules | `(tactic| walk_at "Lt") => `(tactic| refine o_lt ?_)
local macro_rules | `(tactic| walk_at "LtE") => `(tactic| refine o_le ?_)
local macro_rules | `(tactic| walk_at "Gt") => `(tactic| refine o_gt ?_)
local macro_rules | `(tactic| walk_at "GtE") => `(tactic| refine o_ge ?_)
local macro_rules | `(tactic| walk_at "Eq") => `(tactic| refine o_eq (by rfl) ?_)
local macro_rules | `(tactic| walk_at "NotEq") => `(tactic| refine o_ne (by rfl) ?_)
local macro_rules | `(tactic| walk_at "Is") => `(tactic| refine o_isN ?_)
local macro_rules | `(tactic| walk_at "IsNot") => `(tactic| refine o_notN ?_)
local macro_rules | `(tactic| walk_at "In") => `(tactic| refine o_in (by first | exact .inl rfl | exact .inr (.inl rfl) | exact .inr (.inr rfl)) (by rfl) (by rfl) ?_)
local macro_rules | `(tactic| walk_at "NotIn") => `(tactic| refine o_nin (by first | exact .inl rfl | exact .inr (.inl rfl) | exact .inr (.inr rfl)) (by rfl) (by rfl) ?_)
local macro_rules | `(tactic| walk_at "c_abs") => `(tactic| refine c_abs ?_)
local macro_rules | `(tactic| walk_at "c_len") => `(tactic| first | refine c_lenL ?_ | refine c_lenC ?_ | refine c_lenT ?_ | refine c_lenS (by walk_at "s") ?_ | refine c_lenP _ (by first | assumption | rfl) ?_)
local macro_rules | `(tactic| walk_at "c_str") => `(tactic| refine c_str (by walk_at "s") ?_)
local macro_rules | `(tactic| walk_at "c_isinstance") => `(tactic| refine c_isi rfl (by rfl) ?_)
/-! ### pieces drawn and looked at -/
def Signs (z : List Nat) : Prop := ∀ c ∈ z, c = 45 ∨ c = 48 ∨ c = 49
def S_piece : FS := fun ds μ Φ => ∃ (ns : List Int) (n : Nat) (q : Addr) (i : Nat) (v : Nat), ds = [.ptr q, .int v] ∧ PenAt ns n q i μ ∧ n ≤ 100000 ∧ ns.length ≤ 63 ∧ v ≤ 5 ∧
  ∀ z o, z.length = v → PenO ns (n + 6) o → Φ (.str (sl z)) (μ.set i (q, o))
def S_pr : FS := fun ds μ Φ => ∃ (v : Nat) (z : List Nat), ds = [.int v, .str (sl z)] ∧ z.length = v ∧ v ≤ 5 ∧ Φ (.bl true) μ
def S_jr : FS := fun ds μ Φ => ∃ (v : Nat) (a b : Int), ds = [.int v, .int a, .int b] ∧ v ≤ 5 ∧ Φ (.bl true) μ
theorem PenO.mono {ns : List Int} {n m : Nat} {o : MO} (h : PenO ns n o) (hn : n ≤ m) : PenO ns m o := by
  obtain ⟨a, l, h1, h2, h3, h4⟩ := h
  exact ⟨a, l, h1, h2, by omega, h4⟩
theorem one_shl (v : Nat) : (1 : Int) * 2 ^ ((v : Nat) : Int).toNat = ((2 ^ v : Nat) : Int) := by rw [toNat_natCast', Int.one_mul]; simp
theorem pow_le {v : Nat} (h : v ≤ 5) : 0 < 2 ^ v ∧ 2 ^ v ≤ 32 := ⟨Nat.pow_pos (by decide), Nat.pow_le_pow_right (by decide) h⟩
theorem map_sg (l : List Nat) : ((l.map fun c => (⟨#[c]⟩ : Str)).map (·.length)).sum = l.length := by
  induction l with
  | nil => rfl
  | cons x r ih => rw [List.map_cons, List.map_cons, List.sum_cons, ih, List.length_cons]; show 1 + _ = _; omega
theorem join_sg (l : List Nat) : Txt.join ("" : Str) (l.map fun c => (⟨#[c]⟩ : Str)) = sl l := by
  rw [str_inj, join_nil]
  unfold sl
  rw [List.flatMap_map]
  simp
theorem e_len : ("" : Str).length = 0 := by decide +kernel
theorem show_bit {b : Int} (hb : b = 0 ∨ b = 1) : ((toString b : String) : Str) = ⟨#[dig b]⟩ := by
  rcases hb with rfl | rfl <;> decide +kernel
theorem log_bit {b : Int} (hb : b = 0 ∨ b = 1) : b.natAbs.log2 < 1920 := by
  rcases hb with rfl | rfl <;> decide +kernel
theorem eqf_sign (a b : Nat) : D.eqf (.str ⟨#[a]⟩) (.str ⟨#[b]⟩) = (a == b) := by
  show ((⟨#[a]⟩ : Str) == ⟨#[b]⟩) = _
  rw [Bool.eq_iff_iff]; simp
theorem one_sign (a b : Nat) : decide ((⟨#[a]⟩ : Str) = ⟨#[b]⟩) = (a == b) := by
  rw [Bool.eq_iff_iff]; simp
theorem join_symm (v : Nat) (a b : Int) : joinL v b a = joinL v a b := by
  unfold joinL
  refine List.map_congr_left fun k _ => ?_
  by_cases h : bitAt a k = bitAt b k
  · rw [if_pos h, if_pos h.symm, h]
  · rw [if_neg h, if_neg (fun z => h z.symm)]
theorem joinL_len (v : Nat) (a b : Int) : (joinL v a b).length = v := by unfold joinL; simp
theorem joinL_get {v k : Nat} (a b : Int) (h : k < v) : (joinL v a b).getD k 0 = if bitAt a k = bitAt b k then dig (bitAt a k) else 45 := by
  rw [List.getD_eq_getElem?_getD]
  unfold joinL
  rw [List.getElem?_map, List.getElem?_range h]
  rfl
theorem sl_list (z : List Nat) : (sl z).cps.toList = z := by unfold sl; simp
def strange (a b p : Int) (k : Nat) : Bool := !(bitAt a k == bitAt p k || bitAt b k == bitAt p k)
theorem inV_2i (x a b : Int) : inV (.int x) [.int a, .int b] = (a == x || b == x) := by
  show (a == x || (b == x || false)) = _
  rw [Bool.or_false]
theorem ok_strange {v k : Nat} (a b p : Int) (h : k < v) : okAt (joinL v a b) p k = !strange a b p k := by
  unfold okAt strange
  rw [joinL_get a b h, Bool.not_not]
  have ha := bitAt_01 a k
  have hb := bitAt_01 b k
  have hp := bitAt_01 p k
  by_cases e : bitAt a k = bitAt b k
  · rw [if_pos e, ← e, Bool.or_self, Bool.eq_iff_iff, Bool.or_eq_true, beq_iff_eq, beq_iff_eq, beq_iff_eq, dig_inj ha hp]
    exact ⟨fun z => z.elim (fun z => absurd z (dig_ne ha)) id, .inr⟩
  · rw [if_neg e, Bool.eq_iff_iff, Bool.or_eq_true, Bool.or_eq_true, beq_iff_eq, beq_iff_eq, beq_iff_eq, beq_iff_eq]
    refine ⟨fun _ => ?_, fun _ => .inl rfl⟩
    omega
theorem has_strange (v : Nat) (a b p : Int) : hasB (joinL v a b) p = decide (((List.range v).filter (strange a b p)).map (fun k : Nat => (k : Int)) = []) := by
  rw [Bool.eq_iff_iff, decide_eq_true_iff, List.map_eq_nil_iff, List.filter_eq_nil_iff]
  unfold hasB
  rw [joinL_len, List.all_eq_true]
  refine forall_congr' fun k => forall_congr' fun hk => ?_
  rw [ok_strange a b p (List.mem_range.mp hk)]
  simp
theorem bits_eq : ∀ (v : Nat) (p a : Int), 0 ≤ p → p < 2 ^ v → 0 ≤ a → a < 2 ^ v → (∀ k, k < v → bitAt p k = bitAt a k) → p = a
  | 0, p, a, h1, h2, h3, h4, _ => by simp at h2 h4; omega
  | v + 1, p, a, h1, h2, h3, h4, h => by
    have e0 := h 0 (Nat.succ_pos v)
    unfold bitAt at e0
    simp only [Int.pow_zero, Int.ediv_one] at e0
    have e2 : (2 : Int) ^ (v + 1) = 2 ^ v * 2 := Int.pow_succ 2 v
    rw [e2] at h2 h4
    have ih := bits_eq v (p / 2) (a / 2) (by omega) (by omega) (by omega) (by omega) fun k hk => by
      have e := h (k + 1) (Nat.succ_lt_succ hk)
      unfold bitAt at e ⊢
      have e3 : (2 : Int) ^ (k + 1) = 2 * 2 ^ k := by rw [Int.pow_succ, Int.mul_comm]
      rw [e3, ← Int.ediv_ediv_of_nonneg (by decide), ← Int.ediv_ediv_of_nonneg (by decide)] at e
      exact e
    omega
theorem has_self {v : Nat} {p a : Int} (h1 : 0 ≤ p) (h2 : p < 2 ^ v) (h3 : 0 ≤ a) (h4 : a < 2 ^ v) : hasB (joinL v a a) p = decide (p = a) := by
  rw [Bool.eq_iff_iff, decide_eq_true_iff]
  unfold hasB
  rw [joinL_len, List.all_eq_true]
  refine ⟨fun h => bits_eq v p a h1 h2 h3 h4 fun k hk => ?_, fun h k hk => ?_⟩
  · have e := h k (List.mem_range.mpr hk)
    rw [ok_strange a a p hk] at e
    unfold strange at e
    simp at e
    exact e.symm
  · rw [ok_strange a a p (List.mem_range.mp hk), h]
    unfold strange
    simp
theorem range_one (a : Nat) : ∀ N : Nat, (List.range N).filter (fun p => decide (p = a)) = if a < N then [a] else []
  | 0 => by simp
  | N + 1 => by
    rw [List.range_succ, List.filter_append, range_one a N]
    by_cases h : N = a
    · subst h
      simp
    · by_cases h2 : a < N
      · rw [if_pos h2, if_pos (by omega)]; simp [h]
      · rw [if_neg h2, if_neg (by omega)]; simp [h]
section
variable {P : Program} {w : World} {K : PySem.W.Frag} {mg : Str → Option Value} {base : Heap}
theorem ok_piece (B : Src K mg "_law_piece" s__law_piece ["_law_pen_here", "_law_v"]) (T : Tx mg) (G__law_take : Kn P w K mg base 1 "_law_take" ["_law_pen_here", "_law_many"] S_take) : Kn P w K mg base 2 "_law_piece" ["_law_pen_here", "_law_v"] S_piece := by
  refine kn_of B sc__law_piece (fun ds μ Φ h => by obtain ⟨_, _, _, _, _, rfl, _⟩ := h; rfl) fun f cdv A outer s H E hr ds μ Φ h => ?_
  obtain ⟨ns, n, q, i, v, rfl, hpen, hn, hns, hv, k⟩ := h
  -- _law_signs = ['01-', '0--', '1--', '010', '-01'][_law_take(_law_pen_here, 5)]
  refine w_cons (w_set 2 sc__law_piece.nd rfl (.inr rfl) (.inl rfl) ?_)
  refine w_ix ?_
  refine w_lst ?_
  refine wa_cons ?_
  refine w_str ?_
  refine wa_cons ?_
  refine w_str ?_
  refine wa_cons ?_
  refine w_str ?_
  refine wa_cons ?_
  refine w_str ?_
  refine wa_cons ?_
  refine w_str ?_
  refine wa_nil ?_
  refine ⟨by simp, ?_⟩
  refine w_callK G__law_take hr ?_
  refine wa_cons ?_
  refine w_name 0 rfl (.inr (.inl rfl)) rfl ?_
  refine wa_cons ?_
  refine w_int ?_
  refine wa_nil ?_
  refine ⟨ns, n, q, i, 5, rfl, hpen, by omega, hns, by decide, fun r o hr0 hr1 ho => ?_⟩
  obtain ⟨z, hz3, hz⟩ : ∃ z : List Nat, z.length = 3 ∧ [D.str ("01-" : Str), .str ("0--" : Str), .str ("1--" : Str), .str ("010" : Str), .str ("-01" : Str)][r.toNat]? = some (.str (sl z)) := by
    have : r.toNat < 5 := by omega
    generalize r.toNat = j at this
    match j, this with
    | 0, _ => exact ⟨[48, 49, 45], rfl, congrArg (fun x => some (D.str x)) (by decide +kernel : ("01-" : Str) = sl [48, 49, 45])⟩
    | 1, _ => exact ⟨[48, 45, 45], rfl, congrArg (fun x => some (D.str x)) (by decide +kernel : ("0--" : Str) = sl [48, 45, 45])⟩
    | 2, _ => exact ⟨[49, 45, 45], rfl, congrArg (fun x => some (D.str x)) (by decide +kernel : ("1--" : Str) = sl [49, 45, 45])⟩
    | 3, _ => exact ⟨[48, 49, 48], rfl, congrArg (fun x => some (D.str x)) (by decide +kernel : ("010" : Str) = sl [48, 49, 48])⟩
    | 4, _ => exact ⟨[45, 48, 49], rfl, congrArg (fun x => some (D.str x)) (by decide +kernel : ("-01" : Str) = sl [45, 48, 49])⟩
  refine ix_lstD r.toNat (by omega) hz ?_
  have hpen1 := hpen.set ho
  -- return ''.join([_law_signs[_law_take(_law_pen_here, 3)] for _law_k in range(_law_v)])
  refine w_cons (w_ret ?_)
  refine w_join ?_
  refine w_str ?_
  refine ⟨rfl, ?_⟩
  -- comp [_law_signs[_law_take(_law_pen_here, 3)] for _law_k in range(_law_v)]
  refine w_fz (w_lcM (own := [("_law_k", 3)]) (.one 3) (by decide) rfl sc__law_piece.nd (blkOk_by (N := N__law_piece) (sc := defScope s__law_piece) (by decide +kernel)) (fun _ _ _ _ _ => pg_name (i := 3) sc__law_piece.nd rfl (.inl rfl)) ?_)
  refine wi_rng1 T.b_range ?_
  refine w_name 1 rfl (.inl rfl) rfl ?_
  refine ⟨_, rfl, by omega, ?_⟩
  refine ⟨by rw [rngD_len]; omega, fun j acc μ2 => ∃ (l : List Nat) (o : MO), acc = l.map (fun c => .str ⟨#[c]⟩) ∧ l.length = j ∧ μ2 = μ.set i (q, o) ∧ PenO ns (n + 1 + j) o, ⟨[], o, rfl, rfl, rfl, ho⟩, ?_, ?_⟩
  · rintro p j x acc μ2 hx ⟨l, o', rfl, hl, rfl, ho'⟩
    obtain ⟨hj, rfl⟩ := rngD_get hx
    refine ⟨_, rfl, fun _ _ _ _ _ => ?_⟩
    refine ⟨fun _ _ _ _ _ _ => ?_, fun hb => (nomatch hb)⟩
    refine w_ix ?_
    refine w_name 2 rfl (.inr (.inl rfl)) rfl ?_
    refine w_callK G__law_take hr ?_
    refine wa_cons ?_
    refine w_name 0 rfl (.inr (.inl rfl)) rfl ?_
    refine wa_cons ?_
    refine w_int ?_
    refine wa_nil ?_
    refine ⟨ns, n + 1 + j, q, i + 1, 3, rfl, hpen.set ho', by omega, hns, by decide, fun r o2 hr0 hr1 ho2 => ?_⟩
    have h3 : r.toNat < z.length := by omega
    refine ix_strD r.toNat (by omega) (Nat.le_trans (Nat.le_of_eq (by show (sl z).cps.size = 3; unfold sl; simpa using hz3)) (by decide)) (c := z[r.toNat]) (by unfold sl; simp [h3]) ?_
    refine ⟨_, rfl, ?_⟩
    refine ⟨l ++ [z[r.toNat]], o2, by rw [List.map_append]; rfl, by rw [List.length_append, hl]; rfl, by rw [List.set_set], ?_⟩
    exact ho2
  rintro p acc μ2 ⟨l, o', rfl, hl, rfl, ho'⟩
  rw [rngD_len] at hl ho'
  refine ⟨0, p, _, rfl, rfl, ?_⟩
  refine m_join (ys := l.map fun c => (⟨#[c]⟩ : Str)) (.inl ⟨_, .inl rfl, by rw [List.map_map]; rfl⟩) (by rw [map_sg, e_len, Nat.mul_zero, hl]; omega) ?_
  rw [join_sg]
  exact k l o' (by omega) (PenO.mono ho' (by omega))
theorem ok_pr (B : Src K mg "_law_piece_right" s__law_piece_right ["_law_v", "_law_piece_here"]) (T : Tx mg) (G_has : Kn P w K mg base 1 "has" ["piece", "point"] S_has) (G__law_bit : Kn P w K mg base 1 "_law_bit" ["_law_point", "_law_k"] S_bit) : Kn P w K mg base 2 "_law_piece_right" ["_law_v", "_law_piece_here"] S_pr := by
  refine kn_of B sc__law_piece_right (fun ds μ Φ h => by obtain ⟨_, _, rfl, _⟩ := h; rfl) fun f cdv A outer s H E hr ds μ Φ h => ?_
  obtain ⟨v, z, rfl, hz, hv, k⟩ := h
  have hsz : (sl z).length ≤ sizeLine := Nat.le_trans (show (sl z).cps.size ≤ 5 by unfold sl; simpa [hz] using hv) (by decide)
  have hcz : (sl z).cps.toList = z := by unfold sl; simp
  obtain ⟨hp0, hp1⟩ := pow_le hv
  -- for _law_point in range(1 << _law_v):
  refine w_cons (w_for ?_ PassesOwn.never rfl)
  refine wi_rng1 T.b_range ?_
  refine w_bin ?_
  refine w_int ?_
  refine w_name 0 rfl (.inl rfl) rfl ?_
  walk_at "LShift"
  rw [one_shl]
  refine ⟨_, rfl, by omega, ?_⟩
  refine ⟨fun i ρ' μ' => μ' = μ ∧ ∃ a b c d, ρ' = [some (.int v), some (.str (sl z)), a, b, c, d], ⟨rfl, _, _, _, _, rfl⟩, ?_, ?_⟩
  · rintro i x ρ' μ' hx ⟨rfl, a, b, c, d, rfl⟩
    obtain ⟨hi, rfl⟩ := rngD_get hx
    rw [Int.zero_add (i : Int)]
    refine wg_name 2 sc__law_piece_right.nd rfl (.inl rfl) (.inl rfl) ?_
    -- _law_due = True
    refine w_cons (w_set 3 sc__law_piece_right.nd rfl (.inl rfl) (.inl rfl) ?_)
    refine w_bl ?_
    -- for _law_k in range(_law_v):
    refine w_cons (w_for ?_ PassesOwn.never rfl)
    refine wi_rng1 T.b_range ?_
    refine w_name 0 rfl (.inl rfl) rfl ?_
    refine ⟨_, rfl, by omega, ?_⟩
    refine ⟨fun j ρ' μ1 => μ1 = μ' ∧ ∃ c, ρ' = [some (.int v), some (.str (sl z)), some (.int i), some (.bl ((List.range j).all fun k => okAt z i k)), c, d], ⟨rfl, _, rfl⟩, ?_, ?_⟩
    · rintro j x ρ' μ1 hx ⟨rfl, c', rfl⟩
      obtain ⟨hj, rfl⟩ := rngD_get hx
      rw [toNat_natCast'] at hj
      rw [Int.zero_add (j : Int)]
      have hjz : j < z.length := by omega
      have hgz : (sl z).cps.toList[j]? = some z[j] := by rw [hcz]; exact List.getElem?_eq_getElem hjz
      have hb := bitAt_01 i j
      have hok : okAt z i j = (z[j] == 45 || z[j] == dig (bitAt i j)) := by unfold okAt; rw [List.getD_eq_getElem?_getD, List.getElem?_eq_getElem hjz]; rfl
      refine wg_name 4 sc__law_piece_right.nd rfl (.inl rfl) (.inl rfl) ?_
      -- if _law_piece_here[_law_k] != '-' and _law_piece_here[_law_k] != str(_law_bit(_law_point, _law_k)):
      refine w_cons (w_if ?_)
      refine wt_b (!okAt z i j) ?_ ?_
      · refine wt_w ?_
        refine ww_and ?_
        refine wt_cmp ?_
        refine w_ix ?_
        refine w_name 1 rfl (.inl rfl) rfl ?_
        refine w_name 4 rfl (.inl rfl) rfl ?_
        refine ix_strD j rfl hsz hgz ?_
        refine w_str ?_
        walk_at "NotEq"
        refine ⟨_, rfl, ?_⟩
        refine ⟨fun hb0 => ?_, fun hb0 => ⟨(by rw [s_minus, eqf_sign] at hb0; rw [hok]; cases h1 : (z[j] == 45) <;> simp_all), rfl⟩⟩
        refine ww_and1 ?_
        refine wt_cmp ?_
        refine w_ix ?_
        refine w_name 1 rfl (.inl rfl) rfl ?_
        refine w_name 4 rfl (.inl rfl) rfl ?_
        refine ix_strD j rfl hsz hgz ?_
        refine w_callTy (T := "str") T.b_str ?_
        refine wa_cons ?_
        refine w_callK G__law_bit hr ?_
        refine wa_cons ?_
        refine w_name 2 rfl (.inl rfl) rfl ?_
        refine wa_cons ?_
        refine w_name 4 rfl (.inl rfl) rfl ?_
        refine wa_nil ?_
        refine ⟨j, i, rfl, by omega, ?_⟩
        refine wa_nil ?_
        refine c_str (log_bit hb) ?_
        rw [show_bit hb]
        walk_at "NotEq"
        refine ⟨_, rfl, ?_⟩
        exact ⟨(by rw [s_minus, eqf_sign] at hb0; rw [eqf_sign, hok]; cases h1 : (z[j] == 45) <;> simp_all), rfl⟩
      refine ⟨fun hb => ?_, fun hb => ?_⟩
      · -- _law_due = False
        refine w_cons (w_set 3 sc__law_piece_right.nd rfl (.inl rfl) (.inl rfl) ?_)
        refine w_bl ?_
        refine w_nil ?_
        refine w_nil ?_
        refine ⟨rfl, some (.int j), ?_⟩
        rw [List.range_succ, List.all_append]
        simp only [Bool.not_eq_true'] at hb
        simp [hb]
      · refine w_nil ?_
        refine w_nil ?_
        refine ⟨rfl, some (.int j), ?_⟩
        rw [List.range_succ, List.all_append]
        simp only [Bool.not_eq_false'] at hb
        simp [hb]
    rintro ρ' μ1 ⟨rfl, c', rfl⟩
    -- _law_found = has(_law_piece_here, _law_point)
    refine w_cons (w_set 5 sc__law_piece_right.nd rfl (.inl rfl) (.inl rfl) ?_)
    refine w_callK G_has hr ?_
    refine wa_cons ?_
    refine w_name 1 rfl (.inl rfl) rfl ?_
    refine wa_cons ?_
    refine w_name 2 rfl (.inl rfl) rfl ?_
    refine wa_nil ?_
    refine ⟨sl z, i, rfl, ?_⟩
    rw [hcz]
    -- if not isinstance(_law_found, bool) or _law_found != _law_due:
    refine w_cons (w_if ?_)
    refine wt_b (false) ?_ ?_
    · refine wt_w ?_
      refine ww_or ?_
      refine wt_not ?_
      refine wt_val ?_
      refine w_callB (id := "isinstance") T.b_isinstance ?_
      refine wa_cons ?_
      refine w_name 5 rfl (.inl rfl) rfl ?_
      refine wa_cons ?_
      refine w_ty (n := "bool") T.b_bool ?_
      refine wa_nil ?_
      walk_at "c_isinstance"
      refine ⟨_, rfl, ?_⟩
      refine ⟨fun hb0 => ?_, fun hb0 => ⟨(by cases hb0), rfl⟩⟩
      refine ww_or1 ?_
      refine wt_cmp ?_
      refine w_name 5 rfl (.inl rfl) rfl ?_
      refine w_name 3 rfl (.inl rfl) rfl ?_
      walk_at "NotEq"
      refine ⟨_, rfl, ?_⟩
      exact ⟨(by unfold hasB; rw [rngD_len, toNat_natCast', hz]; simp [D.eqf]), rfl⟩
    refine ⟨fun hb => ?_, fun hb => ?_⟩
    · -- return False
      refine w_cons (w_ret ?_)
      refine w_bl ?_
      cases hb
    refine w_nil ?_
    refine w_nil ?_
    exact ⟨rfl, _, _, _, _, rfl⟩
  rintro ρ' μ1 ⟨rfl, a, b, c, d, rfl⟩
  -- return True
  refine w_cons (w_ret ?_)
  refine w_bl ?_
  exact k
theorem ok_jr (B : Src K mg "_law_join_right" s__law_join_right ["_law_v", "_law_one", "_law_other"]) (T : Tx mg) (G_has : Kn P w K mg base 1 "has" ["piece", "point"] S_has) (G_join : Kn P w K mg base 1 "join" ["v", "one", "other"] S_join) (G__law_bit : Kn P w K mg base 1 "_law_bit" ["_law_point", "_law_k"] S_bit) : Kn P w K mg base 2 "_law_join_right" ["_law_v", "_law_one", "_law_other"] S_jr := by
  refine kn_of B sc__law_join_right (fun ds μ Φ h => by obtain ⟨_, _, _, rfl, _⟩ := h; rfl) fun f cdv A outer s H E hr ds μ Φ h => ?_
  obtain ⟨v, a, b, rfl, hv, q⟩ := h
  have hlen : (sl (joinL v a b)).length = v := by show (sl (joinL v a b)).cps.size = v; rw [← Array.length_toList, sl_list, joinL_len]
  have hsz : (sl (joinL v a b)).length ≤ sizeLine := by rw [hlen]; exact Nat.le_trans hv (by decide)
  obtain ⟨hp0, hp1⟩ := pow_le hv
  -- _law_found = join(_law_v, _law_one, _law_other)
  refine w_cons (w_set 3 sc__law_join_right.nd rfl (.inl rfl) (.inl rfl) ?_)
  refine w_callK G_join hr ?_
  refine wa_cons ?_
  refine w_name 0 rfl (.inl rfl) rfl ?_
  refine wa_cons ?_
  refine w_name 1 rfl (.inr (.inl rfl)) rfl ?_
  refine wa_cons ?_
  refine w_name 2 rfl (.inr (.inl rfl)) rfl ?_
  refine wa_nil ?_
  refine ⟨v, a, b, rfl, by omega, ?_⟩
  -- if not isinstance(_law_found, str) or len(_law_found) != _law_v or join(_law_v, _law_other, _law_one) != _law_found:
  refine w_cons (w_if ?_)
  refine wt_b (false) ?_ ?_
  · refine wt_w ?_
    refine ww_or ?_
    refine wt_not ?_
    refine wt_val ?_
    refine w_callB (id := "isinstance") T.b_isinstance ?_
    refine wa_cons ?_
    refine w_name 3 rfl (.inl rfl) rfl ?_
    refine wa_cons ?_
    refine w_ty (n := "str") T.b_str ?_
    refine wa_nil ?_
    walk_at "c_isinstance"
    refine ⟨_, rfl, ?_⟩
    refine ⟨fun hb0 => ?_, fun hb0 => ⟨(by cases hb0), rfl⟩⟩
    refine ww_or ?_
    refine wt_cmp ?_
    refine w_callB (id := "len") T.b_len ?_
    refine wa_cons ?_
    refine w_name 3 rfl (.inl rfl) rfl ?_
    refine wa_nil ?_
    walk_at "c_len"
    refine w_name 0 rfl (.inl rfl) rfl ?_
    walk_at "NotEq"
    refine ⟨_, rfl, ?_⟩
    refine ⟨fun hb1 => ?_, fun hb1 => ⟨(by simp [D.eqf, hlen] at hb1), rfl⟩⟩
    refine ww_or1 ?_
    refine wt_cmp ?_
    refine w_callK G_join hr ?_
    refine wa_cons ?_
    refine w_name 0 rfl (.inl rfl) rfl ?_
    refine wa_cons ?_
    refine w_name 2 rfl (.inr (.inl rfl)) rfl ?_
    refine wa_cons ?_
    refine w_name 1 rfl (.inr (.inl rfl)) rfl ?_
    refine wa_nil ?_
    refine ⟨v, b, a, rfl, by omega, ?_⟩
    rw [join_symm]
    refine w_name 3 rfl (.inl rfl) rfl ?_
    walk_at "NotEq"
    refine ⟨_, rfl, ?_⟩
    exact ⟨(by simp [D.eqf]), rfl⟩
  refine ⟨fun hb => ?_, fun hb => ?_⟩
  · -- return False
    refine w_cons (w_ret ?_)
    refine w_bl ?_
    cases hb
  refine w_nil ?_
  -- for _law_k in range(_law_v):
  refine w_cons (w_for ?_ PassesOwn.never rfl)
  refine wi_rng1 T.b_range ?_
  refine w_name 0 rfl (.inl rfl) rfl ?_
  refine ⟨_, rfl, by omega, ?_⟩
  refine ⟨fun j ρ' μ' => μ' = μ ∧ ∃ x y z u, ρ' = [some (.int v), some (.int a), some (.int b), some (.str (sl (joinL v a b))), x, y, z, u], ⟨rfl, _, _, _, _, rfl⟩, ?_, ?_⟩
  · rintro j x ρ' μ' hx ⟨rfl, y1, y2, y3, y4, rfl⟩
    obtain ⟨hj, rfl⟩ := rngD_get hx
    rw [toNat_natCast'] at hj
    rw [Int.zero_add (j : Int)]
    refine wg_name 4 sc__law_join_right.nd rfl (.inl rfl) (.inl rfl) ?_
    -- _law_due = '-'
    refine w_cons (w_set 5 sc__law_join_right.nd rfl (.inl rfl) (.inl rfl) ?_)
    refine w_str ?_
    -- if _law_bit(_law_one, _law_k) == _law_bit(_law_other, _law_k):
    refine w_cut (fun ρ' μ1 => μ1 = μ' ∧ ρ' = [some (.int v), some (.int a), some (.int b), some (.str (sl (joinL v a b))), some (.int j), some (.str ⟨#[(joinL v a b).getD j 0]⟩), y3, y4]) (w_if ?_) ?_
    · refine wt_cmp ?_
      refine w_callK G__law_bit hr ?_
      refine wa_cons ?_
      refine w_name 1 rfl (.inr (.inl rfl)) rfl ?_
      refine wa_cons ?_
      refine w_name 4 rfl (.inl rfl) rfl ?_
      refine wa_nil ?_
      refine ⟨j, a, rfl, by omega, ?_⟩
      refine w_callK G__law_bit hr ?_
      refine wa_cons ?_
      refine w_name 2 rfl (.inr (.inl rfl)) rfl ?_
      refine wa_cons ?_
      refine w_name 4 rfl (.inl rfl) rfl ?_
      refine wa_nil ?_
      refine ⟨j, b, rfl, by omega, ?_⟩
      walk_at "Eq"
      refine ⟨_, rfl, ?_⟩
      refine ⟨fun hb => ?_, fun hb => ?_⟩
      · -- _law_due = str(_law_bit(_law_one, _law_k))
        refine w_cons (w_set 5 sc__law_join_right.nd rfl (.inl rfl) (.inl rfl) ?_)
        refine w_callTy (T := "str") T.b_str ?_
        refine wa_cons ?_
        refine w_callK G__law_bit hr ?_
        refine wa_cons ?_
        refine w_name 1 rfl (.inr (.inl rfl)) rfl ?_
        refine wa_cons ?_
        refine w_name 4 rfl (.inl rfl) rfl ?_
        refine wa_nil ?_
        refine ⟨j, a, rfl, by omega, ?_⟩
        refine wa_nil ?_
        refine c_str (log_bit (bitAt_01 a j)) ?_
        rw [show_bit (bitAt_01 a j)]
        refine w_nil ?_
        have he : bitAt a j = bitAt b j := by simpa [D.eqf] using hb
        refine ⟨rfl, ?_⟩
        rw [joinL_get a b hj, if_pos he]
        rfl
      · refine w_nil ?_
        have he : ¬ bitAt a j = bitAt b j := by simpa [D.eqf] using hb
        refine ⟨rfl, ?_⟩
        rw [joinL_get a b hj, if_neg he, s_minus]
        rfl
    rintro ρ' μ' ⟨rfl, rfl⟩
    -- if _law_found[_law_k] != _law_due:
    refine w_cons (w_if ?_)
    refine wt_cmp ?_
    refine w_ix ?_
    refine w_name 3 rfl (.inl rfl) rfl ?_
    refine w_name 4 rfl (.inl rfl) rfl ?_
    refine ix_strD j rfl hsz (c := (joinL v a b).getD j 0) (by rw [sl_list, List.getD_eq_getElem?_getD, List.getElem?_eq_getElem (by rw [joinL_len]; exact hj)]; rfl) ?_
    refine w_name 5 rfl (.inl rfl) rfl ?_
    walk_at "NotEq"
    refine ⟨_, rfl, ?_⟩
    refine ⟨fun hb => ?_, fun hb => ?_⟩
    · -- return False
      refine w_cons (w_ret ?_)
      refine w_bl ?_
      simp [D.eqf] at hb
    refine w_nil ?_
    refine w_nil ?_
    exact ⟨rfl, _, _, _, _, rfl⟩
  rintro ρ' μ' ⟨rfl, y1, y2, y3, y4, rfl⟩
  -- for _law_point in range(1 << _law_v):
  refine w_cons (w_for ?_ PassesOwn.never rfl)
  refine wi_rng1 T.b_range ?_
  refine w_bin ?_
  refine w_int ?_
  refine w_name 0 rfl (.inl rfl) rfl ?_
  walk_at "LShift"
  rw [one_shl]
  refine ⟨_, rfl, by omega, ?_⟩
  refine ⟨fun j ρ' μ1 => μ1 = μ' ∧ ∃ x y z u, ρ' = [some (.int v), some (.int a), some (.int b), some (.str (sl (joinL v a b))), x, y, z, u], ⟨rfl, _, _, _, _, rfl⟩, ?_, ?_⟩
  · rintro i x ρ' μ1 hx ⟨rfl, y1, y2, y3, y4, rfl⟩
    obtain ⟨hi, rfl⟩ := rngD_get hx
    rw [Int.zero_add (i : Int)]
    refine wg_name 6 sc__law_join_right.nd rfl (.inr rfl) (.inl rfl) ?_
    -- _law_strange = [_law_k for _law_k in range(_law_v) if _law_bit(_law_point, _law_k) not in (_law_bit(_law_one, _law_k), _law_bit(_law_other, _law_k))]
    refine w_cons (w_setLc (own := [("_law_k", 4)]) 7 (.one 4) (by decide) rfl sc__law_join_right.nd rfl rfl (blkOk_by (N := N__law_join_right) (sc := defScope s__law_join_right) (by decide +kernel)) (sw_true rfl rfl rfl (by decide +kernel)) (fun _ _ _ _ _ => pg_name (i := 4) sc__law_join_right.nd rfl (.inl rfl)) ?_)
    refine wi_rng1 T.b_range ?_
    refine w_name 0 rfl (.inl rfl) rfl ?_
    refine ⟨_, rfl, by omega, ?_⟩
    refine ⟨by rw [rngD_len]; omega, fun j acc μ2 => acc = ((List.range j).filter (strange a b i)).map (fun k : Nat => .int k) ∧ μ2 = μ1, ⟨rfl, rfl⟩, ?_, ?_⟩
    · rintro p j x acc μ2 hx ⟨rfl, rfl⟩
      obtain ⟨hj, rfl⟩ := rngD_get hx
      rw [toNat_natCast'] at hj
      rw [Int.zero_add (j : Int)]
      refine ⟨_, rfl, fun _ _ _ _ _ => ?_⟩
      refine wt_cmp ?_
      refine w_callK G__law_bit hr ?_
      refine wa_cons ?_
      refine w_name 6 rfl (.inr (.inl rfl)) rfl ?_
      refine wa_cons ?_
      refine w_name 4 rfl (.inl rfl) rfl ?_
      refine wa_nil ?_
      refine ⟨j, i, rfl, by omega, ?_⟩
      refine w_tup ?_
      refine wa_cons ?_
      refine w_callK G__law_bit hr ?_
      refine wa_cons ?_
      refine w_name 1 rfl (.inr (.inl rfl)) rfl ?_
      refine wa_cons ?_
      refine w_name 4 rfl (.inl rfl) rfl ?_
      refine wa_nil ?_
      refine ⟨j, a, rfl, by omega, ?_⟩
      refine wa_cons ?_
      refine w_callK G__law_bit hr ?_
      refine wa_cons ?_
      refine w_name 2 rfl (.inr (.inl rfl)) rfl ?_
      refine wa_cons ?_
      refine w_name 4 rfl (.inl rfl) rfl ?_
      refine wa_nil ?_
      refine ⟨j, b, rfl, by omega, ?_⟩
      refine wa_nil ?_
      refine ⟨by simp, ?_⟩
      walk_at "NotIn"
      refine ⟨_, rfl, ?_⟩
      refine ⟨fun hb => ?_, fun hb => ?_⟩
      · intro _ _ _ _ _
        refine w_name 4 rfl (.inl rfl) rfl ?_
        refine ⟨_, rfl, ?_⟩
        refine ⟨?_, rfl⟩
        rw [List.range_succ, List.filter_append, List.map_append]
        have hs : strange a b i j = true := by rw [inV_2i] at hb; exact hb
        simp [hs]
      · refine ⟨_, rfl, ?_⟩
        refine ⟨?_, rfl⟩
        rw [List.range_succ, List.filter_append, List.map_append]
        have hs : strange a b i j = false := by rw [inV_2i] at hb; exact hb
        simp [hs]
    rintro p acc μ2 ⟨rfl, rfl⟩
    refine ⟨_, _, _, rfl, rfl, .inl ?_⟩
    -- if has(_law_found, _law_point) != (_law_strange == []):
    refine w_cons (w_if ?_)
    refine wt_cmp ?_
    refine w_callK G_has hr ?_
    refine wa_cons ?_
    refine w_name 3 rfl (.inl rfl) rfl ?_
    refine wa_cons ?_
    refine w_name 6 rfl (.inr (.inl rfl)) rfl ?_
    refine wa_nil ?_
    refine ⟨_, _, rfl, ?_⟩
    rw [sl_list]
    refine w_cmp ?_
    refine w_name 7 rfl (.inl rfl) rfl ?_
    refine w_lst ?_
    refine wa_nil ?_
    refine ⟨by simp, ?_⟩
    refine o_eqIL hr.units (((List.range (rngD 0 ((v : Nat) : Int).toNat).length).filter (strange a b i)).map fun k : Nat => (k : Int)) [] (by rw [List.map_map]; rfl) rfl ?_
    rw [rngD_len, toNat_natCast', ← has_strange]
    walk_at "NotEq"
    refine ⟨_, rfl, ?_⟩
    refine ⟨fun hb => ?_, fun hb => ?_⟩
    · -- return False
      refine w_cons (w_ret ?_)
      refine w_bl ?_
      simp [D.eqf] at hb
    refine w_nil ?_
    refine w_nil ?_
    exact ⟨rfl, _, _, _, _, rfl⟩
  rintro ρ' μ1 ⟨rfl, y1, y2, y3, y4, rfl⟩
  -- return True
  refine w_cons (w_ret ?_)
  refine w_bl ?_
  exact q
theorem ok_law {f : Addr} {fd : FuncData} (FL : Fun K "law" "law" s_law f fd) (T : Tx mg) (G_join : Kn P w K mg base 1 "join" ["v", "one", "other"] S_join) (G_has : Kn P w K mg base 1 "has" ["piece", "point"] S_has) (G__law_pen : Kn P w K mg base 1 "_law_pen" ["_law_script"] S_pen)
    (G__law_take : Kn P w K mg base 1 "_law_take" ["_law_pen_here", "_law_many"] S_take) (G__law_piece : Kn P w K mg base 2 "_law_piece" ["_law_pen_here", "_law_v"] S_piece) (G__law_piece_right : Kn P w K mg base 2 "_law_piece_right" ["_law_v", "_law_piece_here"] S_pr)
    (G__law_join_right : Kn P w K mg base 2 "_law_join_right" ["_law_v", "_law_one", "_law_other"] S_jr) : FnOk P w K mg base CX0 3 f fd ["_law_script"] (spD K S_law) := by
  refine fn_ok FL sc_law (fun ds μ Φ h => by obtain ⟨_, rfl, _⟩ := h; rfl) fun cdv A outer s H E hr ds μ Φ h => ?_
  obtain ⟨ns, rfl, hns, k⟩ := h
  -- _law_pen_here = _law_pen(_law_script)
  refine w_cons (w_set 1 sc_law.nd rfl (.inl rfl) (.inl rfl) ?_)
  refine w_callK G__law_pen hr ?_
  refine wa_cons ?_
  refine w_name 0 rfl (.inl rfl) rfl ?_
  refine wa_nil ?_
  refine ⟨ns, rfl, fun q => ?_⟩
  -- for _law_turn in range(3):
  refine w_cons (w_for ?_ PassesOwn.never rfl)
  refine wi_rng1 T.b_range ?_
  refine w_int ?_
  refine ⟨_, rfl, by omega, ?_⟩
  refine ⟨fun i ρ' μ' => ∃ o, μ' = (q, o) :: μ ∧ PenO ns (20 * i) o ∧ ∃ x1 x2 x3 x4 x5 x6 x7, ρ' = [some (.scr (ns.map D.int)), some (.ptr q), x1, x2, x3, x4, x5, x6, x7], ⟨_, rfl, ⟨0, 0, rfl, by decide, by decide, by decide⟩, _, _, _, _, _, _, _, rfl⟩, ?_, ?_⟩
  · rintro i x ρ' μ' hx ⟨o, rfl, ho, x1, x2, x3, x4, x5, x6, x7, rfl⟩
    obtain ⟨hi, rfl⟩ := rngD_get hx
    have hi : i < 3 := hi
    refine wg_name 2 sc_law.nd rfl (.inl rfl) (.inl rfl) ?_
    -- _law_v = 1 + _law_take(_law_pen_here, 5)
    refine w_cons (w_set 3 sc_law.nd rfl (.inl rfl) (.inl rfl) ?_)
    refine w_bin ?_
    refine w_int ?_
    refine w_callK G__law_take hr ?_
    refine wa_cons ?_
    refine w_name 1 rfl (.inl rfl) rfl ?_
    refine wa_cons ?_
    refine w_int ?_
    refine wa_nil ?_
    refine ⟨ns, 20 * i, q, 0, 5, rfl, ⟨o, rfl, ho⟩, by omega, hns, by decide, fun r1 o1 h1 h1' ho1 => ?_⟩
    walk_at "Add"
    obtain ⟨v, hv⟩ : ∃ v : Nat, 1 + r1 = v := ⟨(1 + r1).toNat, by omega⟩
    rw [hv]
    obtain ⟨hp0, hp1⟩ := pow_le (show v ≤ 5 by omega)
    -- _law_near = _law_take(_law_pen_here, 3)
    refine w_cons (w_set 4 sc_law.nd rfl (.inl rfl) (.inl rfl) ?_)
    refine w_callK G__law_take hr ?_
    refine wa_cons ?_
    refine w_name 1 rfl (.inl rfl) rfl ?_
    refine wa_cons ?_
    refine w_int ?_
    refine wa_nil ?_
    refine ⟨ns, 20 * i + 1, q, 0, 3, rfl, ⟨o1, rfl, ho1⟩, by omega, hns, by decide, fun r2 o2 h2 h2' ho2 => ?_⟩
    -- _law_one = _law_take(_law_pen_here, 1 << _law_v)
    refine w_cons (w_set 5 sc_law.nd rfl (.inl rfl) (.inl rfl) ?_)
    refine w_callK G__law_take hr ?_
    refine wa_cons ?_
    refine w_name 1 rfl (.inl rfl) rfl ?_
    refine wa_cons ?_
    refine w_bin ?_
    refine w_int ?_
    refine w_name 3 rfl (.inl rfl) rfl ?_
    walk_at "LShift"
    rw [one_shl]
    refine wa_nil ?_
    refine ⟨ns, 20 * i + 1 + 1, q, 0, ((2 ^ v : Nat) : Int), rfl, ⟨o2, rfl, ho2⟩, by omega, hns, by omega, fun r3 o3 h3 h3' ho3 => ?_⟩
    -- _law_other = [_law_one, _law_one ^ 1 << _law_take(_law_pen_here, _law_v), _law_take(_law_pen_here, 1 << _law_v)][_law_near]
    refine w_cons (w_set 6 sc_law.nd rfl (.inl rfl) (.inl rfl) ?_)
    refine w_ix ?_
    refine w_lst ?_
    refine wa_cons ?_
    refine w_name 5 rfl (.inl rfl) rfl ?_
    refine wa_cons ?_
    refine w_bin ?_
    refine w_name 5 rfl (.inl rfl) rfl ?_
    refine w_bin ?_
    refine w_int ?_
    refine w_callK G__law_take hr ?_
    refine wa_cons ?_
    refine w_name 1 rfl (.inl rfl) rfl ?_
    refine wa_cons ?_
    refine w_name 3 rfl (.inl rfl) rfl ?_
    refine wa_nil ?_
    refine ⟨ns, 20 * i + 1 + 1 + 1, q, 0, v, rfl, ⟨o3, rfl, ho3⟩, by omega, hns, by omega, fun r4 o4 h4 h4' ho4 => ?_⟩
    walk_at "LShift"
    walk_at "BitXor"
    refine wa_cons ?_
    refine w_callK G__law_take hr ?_
    refine wa_cons ?_
    refine w_name 1 rfl (.inl rfl) rfl ?_
    refine wa_cons ?_
    refine w_bin ?_
    refine w_int ?_
    refine w_name 3 rfl (.inl rfl) rfl ?_
    walk_at "LShift"
    rw [one_shl]
    refine wa_nil ?_
    refine ⟨ns, 20 * i + 1 + 1 + 1 + 1, q, 0, ((2 ^ v : Nat) : Int), rfl, ⟨o4, rfl, ho4⟩, by omega, hns, by omega, fun r5 o5 h5 h5' ho5 => ?_⟩
    refine wa_nil ?_
    refine ⟨by simp, ?_⟩
    refine w_name 4 rfl (.inl rfl) rfl ?_
    obtain ⟨c, hc⟩ : ∃ c : Int, [D.int r3, .int (Builtin.bitXor r3 (1 * 2 ^ r4.toNat)), .int r5][r2.toNat]? = some (.int c) := by
      have : r2.toNat < 3 := by omega
      generalize r2.toNat = j at this
      match j, this with
      | 0, _ => exact ⟨_, rfl⟩
      | 1, _ => exact ⟨_, rfl⟩
      | 2, _ => exact ⟨_, rfl⟩
    refine ix_lstD r2.toNat (by omega) hc ?_
    -- if not _law_piece_right(_law_v, _law_piece(_law_pen_here, _law_v)) or not _law_join_right(_law_v, _law_one, _law_other):
    refine w_cons (w_if ?_)
    refine wt_w ?_
    refine ww_or ?_
    refine wt_not ?_
    refine wt_val ?_
    refine w_callK G__law_piece_right hr ?_
    refine wa_cons ?_
    refine w_name 3 rfl (.inl rfl) rfl ?_
    refine wa_cons ?_
    refine w_callK G__law_piece hr ?_
    refine wa_cons ?_
    refine w_name 1 rfl (.inl rfl) rfl ?_
    refine wa_cons ?_
    refine w_name 3 rfl (.inl rfl) rfl ?_
    refine wa_nil ?_
    refine ⟨ns, 20 * i + 1 + 1 + 1 + 1 + 1, q, 0, v, rfl, ⟨o5, rfl, ho5⟩, by omega, hns, by omega, fun z o6 hz ho6 => ?_⟩
    refine wa_nil ?_
    refine ⟨v, z, rfl, hz, by omega, ?_⟩
    refine ⟨_, rfl, ?_⟩
    refine ⟨fun hb0 => ?_, fun hb0 => (nomatch hb0)⟩
    refine ww_or1 ?_
    refine wt_not ?_
    refine wt_val ?_
    refine w_callK G__law_join_right hr ?_
    refine wa_cons ?_
    refine w_name 3 rfl (.inl rfl) rfl ?_
    refine wa_cons ?_
    refine w_name 5 rfl (.inl rfl) rfl ?_
    refine wa_cons ?_
    refine w_name 6 rfl (.inl rfl) rfl ?_
    refine wa_nil ?_
    refine ⟨v, r3, c, rfl, by omega, ?_⟩
    refine ⟨_, rfl, ?_⟩
    refine ⟨fun hb => ?_, fun hb => ?_⟩
    · -- return False
      refine w_cons (w_ret ?_)
      refine w_bl ?_
      cases hb
    refine w_nil ?_
    -- _law_alone = join(_law_v, _law_one, _law_one)
    refine w_cons (w_set 7 sc_law.nd rfl (.inr rfl) (.inl rfl) ?_)
    refine w_callK G_join hr ?_
    refine wa_cons ?_
    refine w_name 3 rfl (.inl rfl) rfl ?_
    refine wa_cons ?_
    refine w_name 5 rfl (.inl rfl) rfl ?_
    refine wa_cons ?_
    refine w_name 5 rfl (.inl rfl) rfl ?_
    refine wa_nil ?_
    refine ⟨v, r3, r3, rfl, by omega, ?_⟩
    -- if [_law_point for _law_point in range(1 << _law_v) if has(_law_alone, _law_point)] != [_law_one]:
    refine w_cons (w_if ?_)
    refine wt_cmp ?_
    -- comp [_law_point for _law_point in range(1 << _law_v) if has(_law_alone, _law_point)]
    refine w_fz (w_lcM (own := [("_law_point", 8)]) (.one 8) (by decide) rfl sc_law.nd (blkOk_by (N := N_law) (sc := defScope s_law) (by decide +kernel)) (fun _ _ _ _ _ => pg_name (i := 8) sc_law.nd rfl (.inl rfl)) ?_)
    refine wi_rng1 T.b_range ?_
    refine w_bin ?_
    refine w_int ?_
    refine w_name 3 rfl (.inl rfl) rfl ?_
    walk_at "LShift"
    rw [one_shl]
    refine ⟨_, rfl, by omega, ?_⟩
    refine ⟨by rw [rngD_len]; omega, fun j acc μ2 => acc = ((List.range j).filter (fun p : Nat => hasB (joinL v r3 r3) p)).map (fun k : Nat => .int k) ∧ μ2 = (q, o6) :: μ, ⟨rfl, rfl⟩, ?_, ?_⟩
    · rintro p j x acc μ2 hx ⟨rfl, rfl⟩
      obtain ⟨hj, rfl⟩ := rngD_get hx
      rw [Int.zero_add (j : Int)]
      refine ⟨_, rfl, fun _ _ _ _ _ => ?_⟩
      refine wt_val ?_
      refine w_callK G_has hr ?_
      refine wa_cons ?_
      refine w_name 7 rfl (.inr (.inl rfl)) rfl ?_
      refine wa_cons ?_
      refine w_name 8 rfl (.inl rfl) rfl ?_
      refine wa_nil ?_
      refine ⟨_, j, rfl, ?_⟩
      rw [sl_list]
      refine ⟨_, rfl, ?_⟩
      refine ⟨fun hb => ?_, fun hb => ?_⟩
      · intro _ _ _ _ _
        refine w_name 8 rfl (.inl rfl) rfl ?_
        refine ⟨_, rfl, ?_⟩
        refine ⟨?_, rfl⟩
        rw [List.range_succ, List.filter_append, List.map_append]
        simp [hb]
      · refine ⟨_, rfl, ?_⟩
        refine ⟨?_, rfl⟩
        rw [List.range_succ, List.filter_append, List.map_append]
        simp [hb]
    rintro p acc μ2 ⟨rfl, rfl⟩
    refine ⟨0, p, _, rfl, rfl, ?_⟩
    refine w_lst ?_
    refine wa_cons ?_
    refine w_name 5 rfl (.inl rfl) rfl ?_
    refine wa_nil ?_
    refine ⟨by simp, ?_⟩
    have hl : (List.range (rngD 0 (((2 ^ v : Nat) : Int)).toNat).length).filter (fun p : Nat => hasB (joinL v r3 r3) p) = [r3.toNat] := by
      rw [rngD_len, toNat_natCast']
      have e : (List.range (2 ^ v)).filter (fun p : Nat => hasB (joinL v r3 r3) p) = (List.range (2 ^ v)).filter (fun p => decide (p = r3.toNat)) := by
        refine List.filter_congr fun p hp => ?_
        have hp' := List.mem_range.mp hp
        have e2 : ((2 ^ v : Nat) : Int) = (2 : Int) ^ v := by simp
        rw [has_self (by omega) (by omega) h3 (by omega), Bool.eq_iff_iff, decide_eq_true_iff, decide_eq_true_iff]
        omega
      rw [e, range_one, if_pos (by omega)]
    refine o_neIL hr.units [r3] [r3] (by rw [hl]; show D.lst [.int ((r3.toNat : Nat) : Int)] = _; rw [Int.toNat_of_nonneg h3]; rfl) rfl ?_
    refine ⟨_, rfl, ?_⟩
    refine ⟨fun hb => ?_, fun hb => ?_⟩
    · -- return False
      refine w_cons (w_ret ?_)
      refine w_bl ?_
      simp at hb
    refine w_nil ?_
    refine w_nil ?_
    exact ⟨o6, rfl, PenO.mono ho6 (by omega), _, _, _, _, _, _, _, rfl⟩
  rintro ρ' μ' ⟨o, rfl, ho, x1, x2, x3, x4, x5, x6, x7, rfl⟩
  -- return _law_piece_right(5, '-----') and _law_piece_right(1, '1') and (join(1, 0, 1) == '-')
  refine w_cons (w_ret ?_)
  refine w_andV ?_
  refine w_callK G__law_piece_right hr ?_
  refine wa_cons ?_
  refine w_int ?_
  refine wa_cons ?_
  refine w_str ?_
  refine wa_nil ?_
  refine ⟨5, [45, 45, 45, 45, 45], by rw [show ("-----" : Str) = sl [45, 45, 45, 45, 45] from by decide +kernel]; rfl, rfl, by decide, ?_⟩
  refine ⟨_, rfl, fun hb0 => ?_, fun hb0 => (nomatch hb0)⟩
  refine w_andV ?_
  refine w_callK G__law_piece_right hr ?_
  refine wa_cons ?_
  refine w_int ?_
  refine wa_cons ?_
  refine w_str ?_
  refine wa_nil ?_
  refine ⟨1, [49], by rw [show ("1" : Str) = sl [49] from by decide +kernel]; rfl, rfl, by decide, ?_⟩
  refine ⟨_, rfl, fun hb1 => ?_, fun hb1 => (nomatch hb1)⟩
  refine w_andV1 ?_
  refine w_cmp ?_
  refine w_callK G_join hr ?_
  refine wa_cons ?_
  refine w_int ?_
  refine wa_cons ?_
  refine w_int ?_
  refine wa_cons ?_
  refine w_int ?_
  refine wa_nil ?_
  refine ⟨1, 0, 1, rfl, by decide, ?_⟩
  refine w_str ?_
  walk_at "Eq"
  have e : D.eqf (.str (sl (joinL 1 0 1))) (.str ("-" : Str)) = true := by decide +kernel
  rw [e]
  exact k _
theorem ok_all {f : Addr} {fd : FuncData} (T : Tx mg) (B1 : Src K mg "has" s_has ["piece", "point"]) (B2 : Src K mg "join" s_join ["v", "one", "other"]) (B3 : Src K mg "_law_pen" s__law_pen ["_law_script"]) (B4 : Src K mg "_law_take" s__law_take ["_law_pen_here", "_law_many"])
    (B5 : Src K mg "_law_bit" s__law_bit ["_law_point", "_law_k"]) (B6 : Src K mg "_law_piece" s__law_piece ["_law_pen_here", "_law_v"]) (B7 : Src K mg "_law_piece_right" s__law_piece_right ["_law_v", "_law_piece_here"]) (B8 : Src K mg "_law_join_right" s__law_join_right ["_law_v", "_law_one", "_law_other"])
    (FL : Fun K "law" "law" s_law f fd) : FnOk P w K mg base CX0 3 f fd ["_law_script"] (spD K S_law) :=
  have G1 := ok_has (P := P) (w := w) (base := base) B1 T
  have G2 := ok_join (P := P) (w := w) (base := base) B2 T
  have G3 := ok_pen (P := P) (w := w) (base := base) B3 T
  have G4 := ok_take (P := P) (w := w) (base := base) B4 T
  have G5 := ok_bit (P := P) (w := w) (base := base) B5 T
  ok_law FL T G2 G1 G3 G4 (ok_piece B6 T G4) (ok_pr B7 T G1 G5) (ok_jr B8 T G1 G2 G5)
end
end L44

namespace L44
open PySem PySem.Spec L2 Oc
theorem all_mk {l : PySem.W.OpenLaw} {w : World} {K : PySem.W.Frag} {h : Heap} {mg : Str → Option Value} {fa f0 f1 f2 f3 f4 f5 f6 f7 f8 : Addr} (X : K.In h) (G : h.Ns mainGlobals mg) (hfa : mg "law" = some (.ref fa))
    {od0 an0 od1 an1 od2 an2 od3 an3 od4 an4 od5 an5 od6 an6 od7 an7 od8 an8 : Option Addr} {sl0 sl1 sl2 sl3 sl4 sl5 sl6 sl7 sl8 : Array (Option Value)} {oc0 kV0 dc0 pm0 cd0 ct0 oc1 kV1 dc1 pm1 cd1 ct1 oc2 kV2 dc2 pm2 cd2 ct2 oc3 kV3 dc3 pm3 cd3 ct3 oc4 kV4 dc4 pm4 cd4 ct4 oc5 kV5 dc5 pm5 cd5 ct5 oc6 kV6 dc6 pm6 cd6 ct6 oc7 kV7 dc7 pm7 cd7 ct7 oc8 kV8 dc8 pm8 cd8 ct8 : Value}
    (a0 : PySem.W.nsIn K mainGlobals "has" = some (some (.ref f0))) (l0 : K.lookup f0 = some ⟨oc0, od0, .func (PySem.W.fnOf "has" "has" (defArgs s_has) (defBody s_has) (defScope s_has) .none kV0 dc0 pm0 an0 cd0 ct0), sl0⟩) (c0 : PySem.W.codeIn K cd0 "has" = true) (k0 : PySem.W.keepIn K (.ref f0) = true)
    (a1 : PySem.W.nsIn K mainGlobals "join" = some (some (.ref f1))) (l1 : K.lookup f1 = some ⟨oc1, od1, .func (PySem.W.fnOf "join" "join" (defArgs s_join) (defBody s_join) (defScope s_join) .none kV1 dc1 pm1 an1 cd1 ct1), sl1⟩) (c1 : PySem.W.codeIn K cd1 "join" = true) (k1 : PySem.W.keepIn K (.ref f1) = true)
    (a2 : PySem.W.nsIn K mainGlobals "_law_pen" = some (some (.ref f2))) (l2 : K.lookup f2 = some ⟨oc2, od2, .func (PySem.W.fnOf "_law_pen" "_law_pen" (defArgs s__law_pen) (defBody s__law_pen) (defScope s__law_pen) .none kV2 dc2 pm2 an2 cd2 ct2), sl2⟩) (c2 : PySem.W.codeIn K cd2 "_law_pen" = true) (k2 : PySem.W.keepIn K (.ref f2) = true)
    (a3 : PySem.W.nsIn K mainGlobals "_law_take" = some (some (.ref f3))) (l3 : K.lookup f3 = some ⟨oc3, od3, .func (PySem.W.fnOf "_law_take" "_law_take" (defArgs s__law_take) (defBody s__law_take) (defScope s__law_take) .none kV3 dc3 pm3 an3 cd3 ct3), sl3⟩) (c3 : PySem.W.codeIn K cd3 "_law_take" = true) (k3 : PySem.W.keepIn K (.ref f3) = true)
    (a4 : PySem.W.nsIn K mainGlobals "_law_bit" = some (some (.ref f4))) (l4 : K.lookup f4 = some ⟨oc4, od4, .func (PySem.W.fnOf "_law_bit" "_law_bit" (defArgs s__law_bit) (defBody s__law_bit) (defScope s__law_bit) .none kV4 dc4 pm4 an4 cd4 ct4), sl4⟩) (c4 : PySem.W.codeIn K cd4 "_law_bit" = true) (k4 : PySem.W.keepIn K (.ref f4) = true)
    (a5 : PySem.W.nsIn K mainGlobals "_law_piece" = some (some (.ref f5))) (l5 : K.lookup f5 = some ⟨oc5, od5, .func (PySem.W.fnOf "_law_piece" "_law_piece" (defArgs s__law_piece) (defBody s__law_piece) (defScope s__law_piece) .none kV5 dc5 pm5 an5 cd5 ct5), sl5⟩) (c5 : PySem.W.codeIn K cd5 "_law_piece" = true) (k5 : PySem.W.keepIn K (.ref f5) = true)
    (a6 : PySem.W.nsIn K mainGlobals "_law_piece_right" = some (some (.ref f6))) (l6 : K.lookup f6 = some ⟨oc6, od6, .func (PySem.W.fnOf "_law_piece_right" "_law_piece_right" (defArgs s__law_piece_right) (defBody s__law_piece_right) (defScope s__law_piece_right) .none kV6 dc6 pm6 an6 cd6 ct6), sl6⟩) (c6 : PySem.W.codeIn K cd6 "_law_piece_right" = true) (k6 : PySem.W.keepIn K (.ref f6) = true)
    (a7 : PySem.W.nsIn K mainGlobals "_law_join_right" = some (some (.ref f7))) (l7 : K.lookup f7 = some ⟨oc7, od7, .func (PySem.W.fnOf "_law_join_right" "_law_join_right" (defArgs s__law_join_right) (defBody s__law_join_right) (defScope s__law_join_right) .none kV7 dc7 pm7 an7 cd7 ct7), sl7⟩) (c7 : PySem.W.codeIn K cd7 "_law_join_right" = true) (k7 : PySem.W.keepIn K (.ref f7) = true)
    (a8 : PySem.W.nsIn K mainGlobals "law" = some (some (.ref f8))) (l8 : K.lookup f8 = some ⟨oc8, od8, .func (PySem.W.fnOf "law" "law" (defArgs s_law) (defBody s_law) (defScope s_law) .none kV8 dc8 pm8 an8 cd8 ct8), sl8⟩) (c8 : PySem.W.codeIn K cd8 "law" = true) (k8 : PySem.W.keepIn K (.ref f8) = true)
    (z_enumerate : PySem.W.nsIn K mainGlobals "enumerate" = some none)
    (z_range : PySem.W.nsIn K mainGlobals "range" = some none)
    (z_len : PySem.W.nsIn K mainGlobals "len" = some none)
    (z_isinstance : PySem.W.nsIn K mainGlobals "isinstance" = some none)
    (z_str : PySem.W.nsIn K mainGlobals "str" = some none)
    (z_abs : PySem.W.nsIn K mainGlobals "abs" = some none)
    (z_bool : PySem.W.nsIn K mainGlobals "bool" = some none)
    : ∃ fd : FuncData, (∀ (s : Shared) (v : Value), BindsTo s fd ⟨[v], []⟩ [("_law_script", v)]) ∧ ∀ base : Heap, K.In base → base.Ns mainGlobals mg → FnOk l.prog w K mg base CX0 3 fa fd ["_law_script"] (spD K S_law) := by
  have T : Tx mg := ⟨PySem.W.mg_none_of X G z_enumerate, PySem.W.mg_none_of X G z_range, PySem.W.mg_none_of X G z_len, PySem.W.mg_none_of X G z_isinstance, PySem.W.mg_none_of X G z_str, PySem.W.mg_none_of X G z_abs, PySem.W.mg_none_of X G z_bool⟩
  have B0 : Src K mg "has" s_has ["piece", "point"] := src_mk (PySem.W.mg_of X G a0) l0 c0 k0 fun _ _ _ _ _ _ us hl => match us, hl with | [_, _], _ => rfl
  have B1 : Src K mg "join" s_join ["v", "one", "other"] := src_mk (PySem.W.mg_of X G a1) l1 c1 k1 fun _ _ _ _ _ _ us hl => match us, hl with | [_, _, _], _ => rfl
  have B2 : Src K mg "_law_pen" s__law_pen ["_law_script"] := src_mk (PySem.W.mg_of X G a2) l2 c2 k2 fun _ _ _ _ _ _ us hl => match us, hl with | [_], _ => rfl
  have B3 : Src K mg "_law_take" s__law_take ["_law_pen_here", "_law_many"] := src_mk (PySem.W.mg_of X G a3) l3 c3 k3 fun _ _ _ _ _ _ us hl => match us, hl with | [_, _], _ => rfl
  have B4 : Src K mg "_law_bit" s__law_bit ["_law_point", "_law_k"] := src_mk (PySem.W.mg_of X G a4) l4 c4 k4 fun _ _ _ _ _ _ us hl => match us, hl with | [_, _], _ => rfl
  have B5 : Src K mg "_law_piece" s__law_piece ["_law_pen_here", "_law_v"] := src_mk (PySem.W.mg_of X G a5) l5 c5 k5 fun _ _ _ _ _ _ us hl => match us, hl with | [_, _], _ => rfl
  have B6 : Src K mg "_law_piece_right" s__law_piece_right ["_law_v", "_law_piece_here"] := src_mk (PySem.W.mg_of X G a6) l6 c6 k6 fun _ _ _ _ _ _ us hl => match us, hl with | [_, _], _ => rfl
  have B7 : Src K mg "_law_join_right" s__law_join_right ["_law_v", "_law_one", "_law_other"] := src_mk (PySem.W.mg_of X G a7) l7 c7 k7 fun _ _ _ _ _ _ us hl => match us, hl with | [_, _, _], _ => rfl
  have B8 : Src K mg "law" s_law ["_law_script"] := src_mk (PySem.W.mg_of X G a8) l8 c8 k8 fun _ _ _ _ _ _ us hl => match us, hl with | [_], _ => rfl
  have e := hfa.symm.trans (PySem.W.mg_of X G a8)
  cases e
  refine ⟨PySem.W.fnOf "law" "law" (defArgs s_law) (defBody s_law) (defScope s_law) .none kV8 dc8 pm8 an8 cd8 ct8, fun s v => .of_eq rfl, fun base _ _ => ?_⟩
  have FL := fun_mk (st := s_law) l8 c8 k8
  exact ok_all T B0 B1 B2 B3 B4 B5 B6 B7 FL
end L44
open PySem PySem.W PyProof.Rows
set_option maxRecDepth 100000 in
set_option maxHeartbeats 0 in
theorem PySem.Challenge.cw_opencells_k44_pieces_and_joins_holds : PySem.Challenge.rw_opencells_k44_pieces_and_joins.Holds := by
  w_on; o_law; k_head; (case hw => w_witness2)
  k_fill
  refine L2.walk_of (l := PySem.Challenge.rw_opencells_k44_pieces_and_joins) (n := 63) (k := 3) (x := "_law_script") (CX := fun _ => L2.CX0) (sp := fun w => Oc.spD _ Oc.S_law) rfl (by decide) rfl ⟨rfl, by decide, by decide⟩ (fun w h Y => PySem.W.kIn_of Y) ?F (fun _ _ a ns hl _ hS => Oc.law_end hS hl fun _ => rfl) (fun _ _ _ _ _ h => h)
  case F =>
    intro w mg fa h KX G hmg
    refine' L44.all_mk KX G hmg ?a0 ?l0 ?c0 ?k0 ?a1 ?l1 ?c1 ?k1 ?a2 ?l2 ?c2 ?k2 ?a3 ?l3 ?c3 ?k3 ?a4 ?l4 ?c4 ?k4 ?a5 ?l5 ?c5 ?k5 ?a6 ?l6 ?c6 ?k6 ?a7 ?l7 ?c7 ?k7 ?a8 ?l8 ?c8 ?k8 ?z_enumerate ?z_range ?z_len ?z_isinstance ?z_str ?z_abs ?z_bool
    (case a0 => k_is); (case l0 => k_is); (case c0 => k_is); (case k0 => k_is); (case a1 => k_is); (case l1 => k_is); (case c1 => k_is); (case k1 => k_is); (case a2 => k_is); (case l2 => k_is); (case c2 => k_is); (case k2 => k_is); (case a3 => k_is); (case l3 => k_is); (case c3 => k_is); (case k3 => k_is); (case a4 => k_is); (case l4 => k_is); (case c4 => k_is); (case k4 => k_is); (case a5 => k_is); (case l5 => k_is); (case c5 => k_is); (case k5 => k_is); (case a6 => k_is); (case l6 => k_is); (case c6 => k_is); (case k6 => k_is); (case a7 => k_is); (case l7 => k_is); (case c7 => k_is); (case k7 => k_is); (case a8 => k_is); (case l8 => k_is); (case c8 => k_is); (case k8 => k_is); (case z_enumerate => k_is); (case z_range => k_is); (case z_len => k_is); (case z_isinstance => k_is); (case z_str => k_is); (case z_abs => k_is); (case z_bool => k_is)
