import PyProof.Rows.All
import Wide.All
import OpenK.AllK
import Wide.FinOn
import HandS.ForMost
import HandS.ForExc
import HandS.TryMany
import HandS.CallSlots
import HandS.IsInst
import HandS.TupAny
import HandS.Flow
import HandS.Style
import HandS.Conv
import HandS.Deep
import HandS.SortInts
import KE.SortData
import KE.DataMinMax
import HandS.Small
import HandS.Defaults
import KE.KStateDown
import HandS.Head0
import HandS.Head1
import HandS.Head2
import HandS.HeadEnd
import HandS.HeadHook1
import HandS.HeadHook2
import PySem.Challenge.RW_manychoose_k41_pledges_that_change
set_option Elab.async false
set_option linter.all false
set_option maxRecDepth 100000
set_option maxHeartbeats 4000000
namespace PD
open PySem PySem.Spec L2

/-! ### data -/
abbrev DK := Sum Key (List Key)
inductive D where
  | non | bl (b : Bool) | int (i : Int) | str (s : Str)
  | lst (l : List D) | tup (l : List D) | dct (t : Bool) (l : List (DK × D)) | ty (n : String)
deriving Inhabited
instance : Coe Int D := ⟨D.int⟩

mutual
inductive Rep (F : Hp) : V → D → Prop
  | non : Rep F .non .non
  | bl (b : Bool) : Rep F (.bl b) (.bl b)
  | int (i : Int) : Rep F (.int i) (.int i)
  | str (s : Str) : Rep F (.str s) (.str s)
  | ty (n : String) : Rep F (.ty n) (.ty n)
  | lst {p : Addr} {vs : List V} {ds : List D} : F p = some (.lst vs) → vs.length ≤ sizeLine → RepL F vs ds → Rep F (.ref p) (.lst ds)
  | tup {p : Addr} {vs : List V} {ds : List D} : F p = some (.tup vs) → vs.length ≤ sizeLine → RepL F vs ds → Rep F (.ref p) (.tup ds)
  | dctK {p : Addr} {ks : List (Key × V)} {ds : List (DK × D)} : F p = some (.dK ks) → ks.length ≤ sizeLine → (ks.map (·.1)).Nodup → RepK F ks ds → Rep F (.ref p) (.dct false ds)
  | dctT {p : Addr} {ks : List (List Key × V)} {ds : List (DK × D)} : F p = some (.dT ks) → ks.length ≤ sizeLine → (ks.map (·.1)).Nodup → RepT F ks ds → Rep F (.ref p) (.dct true ds)
inductive RepL (F : Hp) : List V → List D → Prop
  | nil : RepL F [] []
  | cons {v : V} {d : D} {vs : List V} {ds : List D} : Rep F v d → RepL F vs ds → RepL F (v :: vs) (d :: ds)
inductive RepK (F : Hp) : List (Key × V) → List (DK × D) → Prop
  | nil : RepK F [] []
  | cons {k : Key} {v : V} {d : D} {vs : List (Key × V)} {ds : List (DK × D)} : Rep F v d → RepK F vs ds → RepK F ((k, v) :: vs) ((.inl k, d) :: ds)
inductive RepT (F : Hp) : List (List Key × V) → List (DK × D) → Prop
  | nil : RepT F [] []
  | cons {k : List Key} {v : V} {d : D} {vs : List (List Key × V)} {ds : List (DK × D)} : Rep F v d → RepT F vs ds → RepT F ((k, v) :: vs) ((.inr k, d) :: ds)
end

section
variable {F F' : Hp}
mutual
theorem Rep.mono (k : Same F F') : ∀ {v : V} {d : D}, Rep F v d → Rep F' v d
  | _, _, .non => .non
  | _, _, .bl b => .bl b
  | _, _, .int i => .int i
  | _, _, .str s => .str s
  | _, _, .ty s => .ty s
  | _, _, .lst e h r => .lst (k _ _ e) h (RepL.mono k r)
  | _, _, .tup e h r => .tup (k _ _ e) h (RepL.mono k r)
  | _, _, .dctK e h n r => .dctK (k _ _ e) h n (RepK.mono k r)
  | _, _, .dctT e h n r => .dctT (k _ _ e) h n (RepT.mono k r)
theorem RepL.mono (k : Same F F') : ∀ {v : List V} {d : List D}, RepL F v d → RepL F' v d
  | _, _, .nil => .nil
  | _, _, .cons a r => .cons (Rep.mono k a) (RepL.mono k r)
theorem RepK.mono (k : Same F F') : ∀ {v : List (Key × V)} {d : List (DK × D)}, RepK F v d → RepK F' v d
  | _, _, .nil => .nil
  | _, _, .cons a r => .cons (Rep.mono k a) (RepK.mono k r)
theorem RepT.mono (k : Same F F') : ∀ {v : List (List Key × V)} {d : List (DK × D)}, RepT F v d → RepT F' v d
  | _, _, .nil => .nil
  | _, _, .cons a r => .cons (Rep.mono k a) (RepT.mono k r)
end
theorem RepL.length : ∀ {vs : List V} {ds : List D}, RepL F vs ds → vs.length = ds.length
  | _, _, .nil => rfl
  | _, _, .cons _ r => by rw [List.length_cons, List.length_cons, RepL.length r]
theorem RepL.get : ∀ {vs : List V} {ds : List D} {i : Nat} {d : D}, RepL F vs ds → ds[i]? = some d → ∃ v, vs[i]? = some v ∧ Rep F v d
  | _, _, _, _, .nil, e => by simp at e
  | _, _, 0, _, .cons a _, e => by simp at e; subst e; exact ⟨_, rfl, a⟩
  | _, _, i + 1, d, .cons _ r, e => by
    obtain ⟨v, h1, h2⟩ := RepL.get (i := i) (d := d) r (by simpa using e)
    exact ⟨v, by simpa using h1, h2⟩
theorem RepL.get' : ∀ {vs : List V} {ds : List D} {i : Nat} {v : V}, RepL F vs ds → vs[i]? = some v → ∃ d, ds[i]? = some d ∧ Rep F v d
  | _, _, _, _, .nil, e => by simp at e
  | _, _, 0, _, .cons a _, e => by simp at e; subst e; exact ⟨_, rfl, a⟩
  | _, _, i + 1, d, .cons _ r, e => by
    obtain ⟨v, h1, h2⟩ := RepL.get' (i := i) r (by simpa using e)
    exact ⟨v, by simpa using h1, h2⟩
theorem RepL.append : ∀ {vs ws : List V} {ds es : List D}, RepL F vs ds → RepL F ws es → RepL F (vs ++ ws) (ds ++ es)
  | _, _, _, _, .nil, s => s
  | _, _, _, _, .cons a r, s => .cons a (RepL.append r s)
theorem RepL.take : ∀ {vs : List V} {ds : List D} (n : Nat), RepL F vs ds → RepL F (vs.take n) (ds.take n)
  | _, _, 0, _ => by rw [List.take_zero, List.take_zero]; exact .nil
  | _, _, _ + 1, .nil => .nil
  | _, _, n + 1, .cons a r => .cons a (RepL.take n r)
theorem RepL.drop : ∀ {vs : List V} {ds : List D} (n : Nat), RepL F vs ds → RepL F (vs.drop n) (ds.drop n)
  | _, _, 0, r => r
  | _, _, _ + 1, .nil => .nil
  | _, _, n + 1, .cons a r => RepL.drop n r
theorem RepL.set : ∀ {vs : List V} {ds : List D} {v : V} {d : D} (n : Nat), RepL F vs ds → Rep F v d → RepL F (vs.set n v) (ds.set n d)
  | _, _, _, _, _, .nil, _ => .nil
  | _, _, _, _, 0, .cons _ r, h => .cons h r
  | _, _, _, _, n + 1, .cons a r, h => .cons a (RepL.set n r h)
theorem RepL.reverse {vs : List V} {ds : List D} (h : RepL F vs ds) : RepL F vs.reverse ds.reverse := by
  induction vs generalizing ds with
  | nil => cases h; exact .nil
  | cons v vs ih =>
    cases h with
    | cons a r => rw [List.reverse_cons, List.reverse_cons]; exact (ih r).append (.cons a .nil)
theorem RepL.ints {F : Hp} : ∀ ns : List Int, RepL F (ns.map V.int) (ns.map D.int)
  | [] => .nil
  | n :: ns => .cons (.int n) (RepL.ints ns)
theorem RepL.ints_inv : ∀ {vs : List V} {ns : List Int}, RepL F vs (ns.map D.int) → vs = ns.map V.int
  | _, [], .nil => rfl
  | _, n :: ns, .cons a r => by cases a; rw [RepL.ints_inv r] <;> rfl
theorem RepL.strs_inv : ∀ {vs : List V} {ns : List Str}, RepL F vs (ns.map D.str) → vs = ns.map V.str
  | _, [], .nil => rfl
  | _, n :: ns, .cons a r => by cases a; rw [RepL.strs_inv r] <;> rfl
end

/-- what may be read at the top: its items are frozen -/
inductive Top (F H : Hp) : V → D → Prop
  | non : Top F H .non .non
  | bl (b : Bool) : Top F H (.bl b) (.bl b)
  | int (i : Int) : Top F H (.int i) (.int i)
  | str (s : Str) : Top F H (.str s) (.str s)
  | ty (n : String) : Top F H (.ty n) (.ty n)
  | lst {p : Addr} {vs : List V} {ds : List D} : H p = some (.lst vs) → vs.length ≤ sizeLine → RepL F vs ds → Top F H (.ref p) (.lst ds)
  | tup {p : Addr} {vs : List V} {ds : List D} : F p = some (.tup vs) → vs.length ≤ sizeLine → RepL F vs ds → Top F H (.ref p) (.tup ds)
  | dctK {p : Addr} {ks : List (Key × V)} {ds : List (DK × D)} : H p = some (.dK ks) → ks.length ≤ sizeLine → (ks.map (·.1)).Nodup → RepK F ks ds → Top F H (.ref p) (.dct false ds)
  | dctT {p : Addr} {ks : List (List Key × V)} {ds : List (DK × D)} : H p = some (.dT ks) → ks.length ≤ sizeLine → (ks.map (·.1)).Nodup → RepT F ks ds → Top F H (.ref p) (.dct true ds)
theorem Rep.top {F H : Hp} (k : Same F H) {v : V} {d : D} (h : Rep F v d) : Top F H v d := by
  cases h with
  | non => exact .non
  | bl b => exact .bl b
  | int i => exact .int i
  | str s => exact .str s
  | ty s => exact .ty s
  | lst e h r => exact .lst (k _ _ e) h r
  | tup e h r => exact .tup e h r
  | dctK e h n r => exact .dctK (k _ _ e) h n r
  | dctT e h n r => exact .dctT (k _ _ e) h n r
theorem Top.mono {F H F' H' : Hp} (k : Same F F') {v : V} {d : D} (h : Top F H v d) (kh : ∀ p, v = .ref p → ∀ o, H p = some o → H' p = some o) : Top F' H' v d := by
  cases h with
  | non => exact .non
  | bl b => exact .bl b
  | int i => exact .int i
  | str s => exact .str s
  | ty s => exact .ty s
  | lst e h r => exact .lst (kh _ rfl _ e) h (r.mono k)
  | tup e h r => exact .tup (k _ _ e) h (r.mono k)
  | dctK e h n r => exact .dctK (kh _ rfl _ e) h n (r.mono k)
  | dctT e h n r => exact .dctT (kh _ rfl _ e) h n (r.mono k)
theorem Top.live {F H : Hp} {p : Addr} {d : D} (h : Top F H (.ref p) d) (k : Same F H) : ∃ o, H p = some o := by
  cases h with
  | lst e _ _ => exact ⟨_, e⟩
  | tup e _ _ => exact ⟨_, k _ _ e⟩
  | dctK e _ _ _ => exact ⟨_, e⟩
  | dctT e _ _ _ => exact ⟨_, e⟩
/-- the object is frozen -/
theorem Top.freeze {F H : Hp} {p : Addr} {d : D} {o : HO} (h : Top F H (.ref p) d) (e : H p = some o) (n : F p = none) : Rep (upd F p o) (.ref p) d := by
  have k : Same F (upd F p o) := fun b u q => by rw [upd_ne (ne_of_none q n)]; exact q
  cases h with
  | lst q h r => rw [e] at q; cases q; exact .lst upd_same h (r.mono k)
  | tup q h r => rw [n] at q; cases q
  | dctK q h n r => rw [e] at q; cases q; exact .dctK upd_same h n (r.mono k)
  | dctT q h n r => rw [e] at q; cases q; exact .dctT upd_same h n (r.mono k)
theorem same_upd {F : Hp} {p : Addr} {o : HO} (n : F p = none) : Same F (upd F p o) := fun b u q => by rw [upd_ne (ne_of_none q n)]; exact q

theorem Rep.fne {F : Hp} {p : Addr} {d : D} (h : Rep F (.ref p) d) : F p ≠ none := by
  cases h <;> (intro z; simp_all)
/-! ### slots -/
inductive Sl where
  | fro (d : D) | own (d : D) | arg (d : D)
abbrev Env := List (Option Sl)
inductive Out (α : Type) where
  | ok (a : α) (ρ : Env) | err (c : Str) (ρ : Env) | bad
/-- the start of a def: heap, frozen part, what may be changed -/
structure Bs where
  H0 : Hp
  F0 : Hp
  A : Addr → Prop
def Sl.R (b : Bs) (F H : Hp) (v : V) : Sl → Prop
  | .fro d => Rep F v d
  | .own d => ∃ p, v = .ref p ∧ F p = none ∧ b.H0 p = none ∧ Top F H v d
  | .arg d => ∃ p, v = .ref p ∧ F p = none ∧ b.A p ∧ Top F H v d
def Sl.ex : Sl → Bool
  | .fro _ => false
  | _ => true
structure ER (b : Bs) (F H : Hp) (σ : St) (ρ : Env) : Prop where
  sub : Same F H
  len : ρ.length = σ.length
  slot : ∀ (i : Nat) s, ρ[i]? = some (some s) → ∃ v, σ[i]? = some (some v) ∧ s.R b F H v
  sep : ∀ (i j : Nat) s t v, i ≠ j → ρ[i]? = some (some s) → s.ex = true → ρ[j]? = some (some t) → σ[i]? = some (some v) → σ[j]? ≠ some (some v)
  base : ∀ c o, b.H0 c = some o → ¬ b.A c → H c = some o
  live : ∀ c, b.H0 c ≠ none → H c ≠ none
  fro : Same b.F0 F
  new : ∀ c, b.H0 c ≠ none → F c = b.F0 c
theorem Sl.R.mono {b : Bs} {F H F' H' : Hp} {v : V} {s : Sl} (h : s.R b F H v) (k : Same F F') (kh : s.ex = true → ∀ p, v = .ref p → ∀ o, H p = some o → H' p = some o)
    (kn : s.ex = true → ∀ p, v = .ref p → F' p = none) : s.R b F' H' v := by
  cases s with
  | fro d => exact Rep.mono k h
  | own d =>
    obtain ⟨p, rfl, n, h0, t⟩ := h
    exact ⟨p, rfl, kn rfl p rfl, h0, t.mono k (kh rfl)⟩
  | arg d =>
    obtain ⟨p, rfl, n, h0, t⟩ := h
    exact ⟨p, rfl, kn rfl p rfl, h0, t.mono k (kh rfl)⟩
/-- new objects alone -/
structure Grow (F H F' H' : Hp) : Prop where
  h : Same H H'
  f : Same F F'
  s : Same F' H'
  n : ∀ b, H b ≠ none → F' b = F b
theorem Grow.trans {F H F1 H1 F2 H2 : Hp} (a : Grow F H F1 H1) (b : Grow F1 H1 F2 H2) : Grow F H F2 H2 :=
  ⟨a.h.trans b.h, a.f.trans b.f, b.s, fun c hc => by
    have : H1 c ≠ none := fun z => by
      cases q : H c with
      | none => exact hc q
      | some o => rw [a.h c o q] at z; cases z
    rw [b.n c this, a.n c hc]⟩
theorem Grow.refl {F H : Hp} (s : Same F H) : Grow F H F H := ⟨.refl _, .refl _, s, fun _ _ => rfl⟩
theorem Grow.alloc {F H : Hp} {p : Addr} {o : HO} (s : Same F H) (n : H p = none) : Grow F H (upd F p o) (upd H p o) := by
  have nf : F p = none := s.free n
  refine ⟨same_upd n, same_upd nf, fun b u q => ?_, fun b hb => ?_⟩
  · by_cases e : b = p
    · subst e; rw [upd_same] at q; rw [upd_same]; exact q
    · rw [upd_ne e] at q; rw [upd_ne e]; exact s b u q
  · by_cases e : b = p
    · subst e; exact absurd n hb
    · exact upd_ne e
theorem Grow.allocH {F H : Hp} {p : Addr} {o : HO} (s : Same F H) (n : H p = none) : Grow F H F (upd H p o) :=
  ⟨same_upd n, .refl _, s.trans (same_upd n), fun _ _ => rfl⟩
section
variable {b : Bs} {F H F' H' : Hp} {σ : St} {ρ : Env}
theorem ER.grow (E : ER b F H σ ρ) (g : Grow F H F' H') : ER b F' H' σ ρ where
  sub := g.s
  len := E.len
  slot := fun i s e => by
    obtain ⟨v, h1, h2⟩ := E.slot i s e
    refine ⟨v, h1, h2.mono g.f (fun _ p _ o q => g.h p o q) fun hx p hp => ?_⟩
    subst hp
    have : H p ≠ none ∧ F p = none := by
      cases s with
      | fro d => cases hx
      | own d =>
        obtain ⟨p', e', n, _, t⟩ := h2
        cases e'
        obtain ⟨o, q⟩ := t.live E.sub
        exact ⟨by rw [q]; simp, n⟩
      | arg d =>
        obtain ⟨p', e', n, _, t⟩ := h2
        cases e'
        obtain ⟨o, q⟩ := t.live E.sub
        exact ⟨by rw [q]; simp, n⟩
    rw [g.n p this.1, this.2]
  sep := E.sep
  base := fun c o h n => g.h c o (E.base c o h n)
  live := fun c h z => by
    cases q : H c with
    | none => exact E.live c h q
    | some o => rw [g.h c o q] at z; cases z
  fro := E.fro.trans g.f
  new := fun c h => by rw [g.n c (E.live c h), E.new c h]
/-- a frozen value is stored -/
theorem ER.setF (E : ER b F H σ ρ) (i : Nat) {v : V} {d : D} (h : Rep F v d) : ER b F H (σ.set i (some v)) (ρ.set i (some (.fro d))) where
  sub := E.sub
  len := by rw [List.length_set, List.length_set, E.len]
  slot := fun j s e => by
    by_cases hj : i = j
    · subst hj
      have hl : i < ρ.length := by
        have := (List.getElem?_eq_some_iff.mp e).1
        rwa [List.length_set] at this
      rw [List.getElem?_set_self hl] at e
      cases e
      exact ⟨v, by rw [List.getElem?_set_self (by rw [← E.len]; exact hl)], h⟩
    · rw [List.getElem?_set_ne hj] at e
      rw [List.getElem?_set_ne hj]
      exact E.slot j s e
  sep := fun j k s t u hjk hj hs hk hu hv => by
    by_cases ej : i = j
    · subst ej
      have hl : i < ρ.length := by
        have := (List.getElem?_eq_some_iff.mp hj).1
        rwa [List.length_set] at this
      rw [List.getElem?_set_self hl] at hj
      cases hj; cases hs
    · rw [List.getElem?_set_ne ej] at hj hu
      by_cases ek : i = k
      · subst ek
        have hl : i < σ.length := by
          have := (List.getElem?_eq_some_iff.mp hv).1
          rwa [List.length_set] at this
        rw [List.getElem?_set_self hl] at hv
        cases hv
        obtain ⟨v', h1, h2⟩ := E.slot j s hj
        rw [hu] at h1; cases h1
        cases s with
        | fro d => cases hs
        | own d => obtain ⟨p, rfl, n, _⟩ := h2; exact h.fne n
        | arg d => obtain ⟨p, rfl, n, _⟩ := h2; exact h.fne n
      · rw [List.getElem?_set_ne ek] at hk hv
        exact E.sep j k s t u hjk hj hs hk hu hv
  base := E.base
  live := E.live
  fro := E.fro
  new := E.new
/-- a new object is stored -/
theorem ER.setO (E : ER b F H σ ρ) (i : Nat) {p : Addr} {d : D} (n : F p = none) (h0 : b.H0 p = none) (h : Top F H (.ref p) d) (hs : ∀ (j : Nat) t, ρ[j]? = some (some t) → σ[j]? ≠ some (some (.ref p))) : ER b F H (σ.set i (some (.ref p))) (ρ.set i (some (.own d))) where
  sub := E.sub
  len := by rw [List.length_set, List.length_set, E.len]
  slot := fun j s e => by
    by_cases hj : i = j
    · subst hj
      have hl : i < ρ.length := by
        have := (List.getElem?_eq_some_iff.mp e).1
        rwa [List.length_set] at this
      rw [List.getElem?_set_self hl] at e
      cases e
      exact ⟨.ref p, by rw [List.getElem?_set_self (by rw [← E.len]; exact hl)], p, rfl, n, h0, h⟩
    · rw [List.getElem?_set_ne hj] at e
      rw [List.getElem?_set_ne hj]
      exact E.slot j s e
  sep := fun j k s t u hjk hj hsx hk hu hv => by
    by_cases ej : i = j
    · subst ej
      have hl : i < σ.length := by
        have := (List.getElem?_eq_some_iff.mp hu).1
        rwa [List.length_set] at this
      rw [List.getElem?_set_self hl] at hu
      cases hu
      rw [List.getElem?_set_ne hjk] at hk hv
      exact hs k t hk hv
    · rw [List.getElem?_set_ne ej] at hj hu
      by_cases ek : i = k
      · subst ek
        have hl : i < σ.length := by
          have := (List.getElem?_eq_some_iff.mp hv).1
          rwa [List.length_set] at this
        rw [List.getElem?_set_self hl] at hv
        cases hv
        exact hs j s hj hu
      · rw [List.getElem?_set_ne ek] at hk hv
        exact E.sep j k s t u hjk hj hsx hk hu hv
  base := E.base
  live := E.live
  fro := E.fro
  new := E.new
/-- an own slot's object is frozen -/
theorem ER.freeze (E : ER b F H σ ρ) {i : Nat} {d : D} (hi : ρ[i]? = some (some (.own d))) : ∃ F' v, σ[i]? = some (some v) ∧ Same F F' ∧ Rep F' v d ∧ ER b F' H σ (ρ.set i (some (.fro d))) ∧ ∀ c, σ[i]? ≠ some (some (.ref c)) → F' c = F c := by
  obtain ⟨v, h1, p, rfl, n, h0, t⟩ := E.slot i _ hi
  obtain ⟨o, ho⟩ := t.live E.sub
  have hl : i < ρ.length := (List.getElem?_eq_some_iff.mp hi).1
  have kF : Same F (upd F p o) := same_upd n
  have rp : Rep (upd F p o) (.ref p) d := t.freeze ho n
  refine ⟨upd F p o, .ref p, h1, kF, rp, ⟨?_, by rw [List.length_set, E.len], fun j s e => ?_, fun j k s u w hjk hj hs hk hu hv => ?_, E.base, E.live, E.fro.trans kF, fun c hc => ?_⟩, fun c hc => upd_ne fun z => hc (by rw [z]; exact h1)⟩
  · intro c u q
    by_cases e : c = p
    · subst e; rw [upd_same] at q; cases q; exact ho
    · rw [upd_ne e] at q; exact E.sub c u q
  · by_cases ej : i = j
    · subst ej
      rw [List.getElem?_set_self hl] at e
      cases e
      exact ⟨_, h1, rp⟩
    · rw [List.getElem?_set_ne ej] at e
      obtain ⟨v, g1, g2⟩ := E.slot j s e
      refine ⟨v, g1, g2.mono kF (fun _ _ _ _ q => q) fun hx q hq => ?_⟩
      subst hq
      have : q ≠ p := fun z => by
        subst z
        exact E.sep i j _ _ _ ej hi rfl e h1 g1
      rw [upd_ne this]
      cases s with
      | fro d => cases hx
      | own d => obtain ⟨p', e', m, _⟩ := g2; cases e'; exact m
      | arg d => obtain ⟨p', e', m, _⟩ := g2; cases e'; exact m
  · have ej : i ≠ j := fun z => by
      subst z
      rw [List.getElem?_set_self hl] at hj
      cases hj; cases hs
    rw [List.getElem?_set_ne ej] at hj
    by_cases ek : i = k
    · subst ek
      exact E.sep j i s _ w hjk hj hs hi hu hv
    · rw [List.getElem?_set_ne ek] at hk
      exact E.sep j k s u w hjk hj hs hk hu hv
  · have : c ≠ p := fun z => by subst z; exact hc h0
    rw [upd_ne this]; exact E.new c hc
/-- an own object is changed -/
theorem ER.write (E : ER b F H σ ρ) {i : Nat} {p : Addr} {o : HO} {d' : D} {s : Sl} (hi : ρ[i]? = some (some s)) (hs : s.ex = true) (hp : σ[i]? = some (some (.ref p))) (t : Top F (upd H p o) (.ref p) d') :
    ER b F (upd H p o) σ (ρ.set i (some (match s with | .arg _ => .arg d' | _ => .own d'))) := by
  obtain ⟨v, h1, h2⟩ := E.slot i _ hi
  rw [hp] at h1; cases h1
  have hl : i < ρ.length := (List.getElem?_eq_some_iff.mp hi).1
  have hn : F p = none ∧ (b.H0 p = none ∨ b.A p) := by
    cases s with
    | fro d => cases hs
    | own d => obtain ⟨p', e', m, h, _⟩ := h2; cases e'; exact ⟨m, .inl h⟩
    | arg d => obtain ⟨p', e', m, h, _⟩ := h2; cases e'; exact ⟨m, .inr h⟩
  refine ⟨fun c u q => ?_, by rw [List.length_set, E.len], fun j s' e => ?_, fun j k s' u w hjk hj hs' hk hu hv => ?_, fun c u h n => ?_, fun c h => ?_, E.fro, E.new⟩
  · rw [upd_ne (ne_of_none q hn.1)]; exact E.sub c u q
  · by_cases ej : i = j
    · subst ej
      rw [List.getElem?_set_self hl] at e
      cases e
      refine ⟨_, hp, ?_⟩
      cases s with
      | fro d => cases hs
      | own d => obtain ⟨p', e', m, h, _⟩ := h2; cases e'; exact ⟨p, rfl, m, h, t⟩
      | arg d => obtain ⟨p', e', m, h, _⟩ := h2; cases e'; exact ⟨p, rfl, m, h, t⟩
    · rw [List.getElem?_set_ne ej] at e
      obtain ⟨v, g1, g2⟩ := E.slot j s' e
      refine ⟨v, g1, g2.mono (.refl _) (fun _ q hq u hu => ?_) fun hx q hq => ?_⟩
      · subst hq
        have : q ≠ p := fun z => by
          subst z
          exact E.sep i j _ _ _ ej hi hs e hp g1
        rw [upd_ne this]; exact hu
      · subst hq
        cases s' with
        | fro d => cases hx
        | own d => obtain ⟨p', e', m, _⟩ := g2; cases e'; exact m
        | arg d => obtain ⟨p', e', m, _⟩ := g2; cases e'; exact m
  · by_cases ej : i = j
    · subst ej
      rw [List.getElem?_set_ne hjk] at hk
      exact E.sep i k s _ w hjk hi hs hk hu hv
    · rw [List.getElem?_set_ne ej] at hj
      by_cases ek : i = k
      · subst ek
        exact E.sep j i s' _ w hjk hj hs' hi hu hv
      · rw [List.getElem?_set_ne ek] at hk
        exact E.sep j k s' u w hjk hj hs' hk hu hv
  · have : c ≠ p := fun z => by
      subst z
      rcases hn.2 with q | q
      · rw [q] at h; cases h
      · exact n q
    rw [upd_ne this]; exact E.base c u h n
  · by_cases e : c = p
    · subst e; rw [upd_same]; simp
    · rw [upd_ne e]; exact E.live c h
end
end PD
namespace PD
open PySem PySem.Spec L2

/-! ### the static part of a context -/
structure Gam where
  P : Program
  w : World
  K : PySem.W.Frag
  mg : Str → Option Value
  base : Heap
  N : List Str
  sc : Scope
  fn : Str → Bool
  k : Nat
structure Gam.Has (Γ : Gam) (X : Cx) : Prop where
  prog : X.prog = Γ.P
  w : X.w = Γ.w
  K : X.K = Γ.K
  mg : X.mg = Γ.mg
  base : X.base = Γ.base
  N : X.N = Γ.N
  sc : X.env.scope = Γ.sc
  fn : X.fn = Γ.fn
  room : Room Γ.k X.A
  calm : X.calm = true
  nd : Γ.N.Nodup
structure Cond (X : Cx) (W : WX) : Prop where
  tk : Takes X W
  po : PassesOwn (model X.prog X.w) X.A X.env X.xe
abbrev WF : WX := fun _ _ _ _ => False
theorem takesF (X : Cx) : Takes X WF := fun u s' ⟨_, _, _, _, _, _, _, _, _, _, _, _, _, _, _, _, w⟩ => w.elim
theorem Gam.Has.hu {Γ : Gam} {X : Cx} (h : Γ.Has X) : X.A.units + 64 < cLine := h.room.units

/-! ### what an expression does -/
inductive Md where
  | fro | top | own
deriving DecidableEq
def NotEx (σ : L2.St) (ρ : Env) (c : Addr) : Prop := ∀ (i : Nat) s, ρ[i]? = some (some s) → s.ex = true → σ[i]? ≠ some (some (.ref c))
structure Stp (σ : L2.St) (ρ : Env) (F H : Hp) (ρ' : Env) (F' H' : Hp) : Prop where
  f : Same F F'
  h : ∀ c o, H c = some o → NotEx σ ρ c → H' c = some o
  n : ∀ c, H c ≠ none → NotEx σ ρ c → F' c = F c
  lv : ∀ c, H c ≠ none → H' c ≠ none
  ex : ∀ c, NotEx σ ρ c → NotEx σ ρ' c
  df : ∀ (j : Nat) t, ρ'[j]? = some (some t) → ∃ u, ρ[j]? = some (some u)
theorem Stp.trans {σ : L2.St} {ρ ρ1 ρ2 : Env} {F H F1 H1 F2 H2 : Hp} (a : Stp σ ρ F H ρ1 F1 H1) (b : Stp σ ρ1 F1 H1 ρ2 F2 H2) : Stp σ ρ F H ρ2 F2 H2 :=
  ⟨a.f.trans b.f, fun c o h n => b.h c o (a.h c o h n) (a.ex c n), fun c h n => by rw [b.n c (a.lv c h) (a.ex c n), a.n c h n], fun c h => b.lv c (a.lv c h), fun c n => b.ex c (a.ex c n), fun j t h => let ⟨u, hu⟩ := b.df j t h; a.df j u hu⟩
theorem Stp.refl {σ : L2.St} {ρ : Env} {F H : Hp} : Stp σ ρ F H ρ F H := ⟨.refl _, fun _ _ h _ => h, fun _ _ _ => rfl, fun _ h => h, fun _ h => h, fun _ t h => ⟨t, h⟩⟩
theorem Stp.grow {σ : L2.St} {ρ : Env} {F H F' H' : Hp} (g : Grow F H F' H') : Stp σ ρ F H ρ F' H' :=
  ⟨g.f, fun c o h _ => g.h c o h, fun c h _ => g.n c h, fun c h z => (by
    cases q : H c with
    | none => exact h q
    | some o => rw [g.h c o q] at z; cases z), fun _ h => h, fun _ t h => ⟨t, h⟩⟩
/-- how the value of an expression is handed on; Hs: the heap ahead of it -/
def VRg (m : Md) (Hs F H : Hp) (v : V) (d : D) : Prop :=
  match m with
  | .fro => Rep F v d
  | .top => Top F H v d
  | .own => ∃ p, v = .ref p ∧ Hs p = none ∧ F p = none ∧ Top F H v d
theorem ER.lives {b : Bs} {F H : Hp} {σ : L2.St} {ρ : Env} (E : ER b F H σ ρ) {j : Nat} {t : Sl} {p : Addr} (h : ρ[j]? = some (some t)) (e : σ[j]? = some (some (.ref p))) : H p ≠ none := by
  obtain ⟨v, h1, h2⟩ := E.slot j t h
  rw [e] at h1; cases h1
  cases t with
  | fro d =>
    obtain ⟨o, q⟩ := (Rep.top E.sub h2).live E.sub
    rw [q]; simp
  | own d =>
    obtain ⟨p', _, _, _, t⟩ := h2
    obtain ⟨o, q⟩ := t.live E.sub
    rw [q]; simp
  | arg d =>
    obtain ⟨p', _, _, _, t⟩ := h2
    obtain ⟨o, q⟩ := t.live E.sub
    rw [q]; simp
/-- R: how the value stands for the datum (heap ahead, frozen part, heap) -/
abbrev RV (α β : Type) := Hp → Hp → Hp → β → α → Prop
def Post {α β : Type} (mg : Str → Option Value) (b : Bs) (pu : Bool) (F H : Hp) (σ : L2.St) (ρ : Env) (W : WX) (R : RV α β) (Q : β → Hp → Prop) : Out α → Prop
  | .ok d ρ' => ∀ v F' H', Stp σ ρ F H ρ' F' H' → (pu = true → Same H H') → ER b F' H' σ ρ' → R H F' H' v d → Q v H'
  | .err c ρ' => ∀ cls F' H', mg c = some cls → Same F F' → ER b F' H' σ ρ' → W cls none σ H'
  | .bad => False
inductive VRgL (m : Md) (Hs F H : Hp) : List V → List D → Prop
  | nil : VRgL m Hs F H [] []
  | cons {v : V} {d : D} {vs : List V} {ds : List D} : VRg m Hs F H v d → VRgL m Hs F H vs ds → VRgL m Hs F H (v :: vs) (d :: ds)
def VRb : RV Bool Bool := fun _ _ _ v d => v = d
def Sem {α β : Type} (mg : Str → Option Value) (pu : Bool) (W : WX) (R : RV α β) (t : L2.St → Hp → (β → Hp → Prop) → Prop) (f : Env → Out α) : Prop :=
  ∀ b σ H F ρ Q, ER b F H σ ρ → Post mg b pu F H σ ρ W R Q (f ρ) → t σ H Q
def JE (Γ : Gam) (m : Md) (pu : Bool) (e : Expr) (f : Env → Out D) : Prop :=
  ∃ te : WX → TE, (∀ W, Sem Γ.mg pu W (VRg m) (te W) f) ∧ ∀ X W, Γ.Has X → Cond X W → PE X e (te W)
def JT (Γ : Gam) (pu : Bool) (e : Expr) (f : Env → Out Bool) : Prop :=
  ∃ te : WX → TT, (∀ W, Sem Γ.mg pu W VRb (te W) f) ∧ ∀ X W, Γ.Has X → Cond X W → PT X e (te W)
def JA (Γ : Gam) (m : Md) (pu : Bool) (es : List Expr) (f : Env → Out (List D)) : Prop :=
  ∃ ta : WX → TA, (∀ W, Sem Γ.mg pu W (VRgL m) (ta W) f) ∧ ∀ X W, Γ.Has X → Cond X W → PA X es (ta W)

@[reducible] def Out.bind {α β : Type} (x : Out α) (f : α → Env → Out β) : Out β :=
  match x with
  | .ok a ρ => f a ρ
  | .err c ρ => .err c ρ
  | .bad => .bad
theorem Out.bind_ok {α β : Type} (a : α) (ρ : Env) (f : α → Env → Out β) : (Out.ok a ρ).bind f = f a ρ := rfl
theorem Out.bind_err {α β : Type} (c : Str) (ρ : Env) (f : α → Env → Out β) : (Out.err c ρ : Out α).bind f = .err c ρ := rfl
theorem Out.bind_bad {α β : Type} (f : α → Env → Out β) : (Out.bad : Out α).bind f = .bad := rfl

section
variable {Γ : Gam} {mg : Str → Option Value} {m : Md} {pu : Bool} {b : Bs} {F H F' H' : Hp} {σ : L2.St} {ρ ρ' : Env} {W : WX}
theorem VRg.top {m : Md} {Hs : Hp} {v : V} {d : D} (k : Same F H) (h : VRg m Hs F H v d) : Top F H v d := by
  cases m with
  | fro => exact Rep.top k h
  | top => exact h
  | own => obtain ⟨_, _, _, _, t⟩ := h; exact t
/-- what was handed on stays while nothing is changed -/
theorem VRg.stay {Hs : Hp} {v : V} {d : D} (E : ER b F H σ ρ) (hm : m ≠ .own) (h : VRg m Hs F H v d) (s : Stp σ ρ F H ρ' F' H') (k : m = .fro ∨ Same H H') : VRg m Hs F' H' v d := by
  cases m with
  | fro => exact Rep.mono s.f h
  | top =>
    have k' : Same H H' := k.resolve_left (by intro z; cases z)
    exact Top.mono s.f h fun p _ o q => k' p o q
  | own => exact absurd rfl hm
/-- an own value is frozen -/
theorem VRg.freeze {v : V} {d : D} (E : ER b F H σ ρ) (s : Stp σ ρ F H ρ' F' H') (E' : ER b F' H' σ ρ') (h : VRg .own H F' H' v d) : ∃ F'', Stp σ ρ F H ρ' F'' H' ∧ ER b F'' H' σ ρ' ∧ Rep F'' v d ∧ Same F' F'' := by
  obtain ⟨p, rfl, n0, n, t⟩ := h
  obtain ⟨o, ho⟩ := t.live E'.sub
  have kF : Same F' (upd F' p o) := same_upd n
  have ne : ∀ (j : Nat) u, ρ'[j]? = some (some u) → σ[j]? ≠ some (some (.ref p)) := fun j u hj e => by
    obtain ⟨u', hu'⟩ := s.df j u hj
    exact E.lives hu' e n0
  refine ⟨upd F' p o, ⟨s.f.trans kF, s.h, fun c hc hn => ?_, s.lv, s.ex, s.df⟩, ⟨fun c u q => ?_, E'.len, fun j u hj => ?_, E'.sep, E'.base, E'.live, E'.fro.trans kF, fun c hc => ?_⟩, t.freeze ho n, kF⟩
  · rw [upd_ne (fun z => by subst z; exact hc n0)]; exact s.n c hc hn
  · by_cases e : c = p
    · subst e; rw [upd_same] at q; cases q; exact ho
    · rw [upd_ne e] at q; exact E'.sub c u q
  · obtain ⟨v, g1, g2⟩ := E'.slot j u hj
    refine ⟨v, g1, g2.mono kF (fun _ _ _ _ q => q) fun hx q hq => ?_⟩
    subst hq
    have : q ≠ p := fun z => by subst z; exact ne j u hj g1
    rw [upd_ne this]
    cases u with
    | fro d => cases hx
    | own d => obtain ⟨p', e', m, _⟩ := g2; cases e'; exact m
    | arg d => obtain ⟨p', e', m, _⟩ := g2; cases e'; exact m
  · rw [upd_ne (fun z => by subst z; exact E.live c hc n0)]; exact E'.new c hc
end

/-! ### one thing behind the other -/
section
variable {α β γ δ : Type} {mg : Str → Option Value} {b : Bs} {pu pa : Bool} {F H : Hp} {σ : L2.St} {ρ : Env} {W : WX} {R : RV α β} {R' : RV γ δ}
theorem Post.bind {x : Out α} {k : α → Env → Out γ} {Q : δ → Hp → Prop} {Q1 : β → Hp → Prop} (P : Post mg b pu F H σ ρ W R' Q (x.bind k)) (hpu : pu = true → pa = true)
    (h : ∀ a ρ1 v F1 H1, Stp σ ρ F H ρ1 F1 H1 → (pa = true → Same H H1) → ER b F1 H1 σ ρ1 → R H F1 H1 v a → Post mg b pu F1 H1 σ ρ1 W (fun _ => R' H) Q (k a ρ1) → Q1 v H1) : Post mg b pa F H σ ρ W R Q1 x := by
  cases x with
  | ok a ρ1 =>
    intro v F1 H1 s k1 E r
    refine h a ρ1 v F1 H1 s k1 E r ?_
    have P' : Post mg b pu F H σ ρ W R' Q (k a ρ1) := P
    revert P'
    cases k a ρ1 with
    | ok c ρ2 => exact fun P' v2 F2 H2 s2 k2 E2 r2 => P' v2 F2 H2 (s.trans s2) (fun hp => (k1 (hpu hp)).trans (k2 hp)) E2 r2
    | err c ρ2 => exact fun P' cls F2 H2 hm hf E2 => P' cls F2 H2 hm (s.f.trans hf) E2
    | bad => exact fun P' => P'
  | err c ρ1 => exact P
  | bad => exact P
theorem Post.map {x : Out α} {Q : β → Hp → Prop} {Q1 : δ → Hp → Prop} {R1 : RV α δ} (P : Post mg b pu F H σ ρ W R Q x) (h : ∀ a ρ1 v F1 H1, Stp σ ρ F H ρ1 F1 H1 → (pa = true → Same H H1) → ER b F1 H1 σ ρ1 → R1 H F1 H1 v a → x = .ok a ρ1 → Q1 v H1) : Post mg b pa F H σ ρ W R1 Q1 x := by
  cases x with
  | ok a ρ1 => exact fun v F1 H1 s k E r => h a ρ1 v F1 H1 s k E r rfl
  | err c ρ1 => exact P
  | bad => exact P
/-- the end: a value made by new objects alone -/
theorem Post.done {R : RV α β} {a : α} {Q : β → Hp → Prop} {v : β} {F' H' : Hp} (P : Post mg b pu F H σ ρ W R Q (.ok a ρ)) (E : ER b F H σ ρ) (g : Grow F H F' H') (r : R H F' H' v a) : Q v H' :=
  P v F' H' (Stp.grow g) (fun _ => g.h) (E.grow g) r
theorem VRg.back {m : Md} {Hs Hs' F H : Hp} {v : V} {d : D} (h : VRg m Hs' F H v d) (k : ∀ c, Hs c ≠ none → Hs' c ≠ none) : VRg m Hs F H v d := by
  cases m with
  | fro => exact h
  | top => exact h
  | own =>
    obtain ⟨p, e, n, r⟩ := h
    refine ⟨p, e, ?_, r⟩
    cases q : Hs p with
    | none => rfl
    | some o => exact absurd n (k p (by rw [q]; simp))
end

/-! ### rules: modes -/
section
variable {Γ : Gam} {m : Md} {pu : Bool} {e : Expr} {f : Env → Out D}
theorem je_own_fro (h : JE Γ .own pu e f) : JE Γ .fro pu e f := by
  obtain ⟨te, hs, hp⟩ := h
  refine ⟨te, fun W b σ H F ρ Q E P => hs W b σ H F ρ Q E ?_, hp⟩
  revert P
  cases f ρ with
  | ok d ρ' =>
    intro P v F' H' s k E' r
    obtain ⟨F'', s', E'', r', _⟩ := VRg.freeze E s E' r
    exact P v F'' H' s' k E'' r'
  | err c ρ' => exact fun P => P
  | bad => exact fun P => P
theorem je_top (h : JE Γ m pu e f) : JE Γ .top pu e f := by
  obtain ⟨te, hs, hp⟩ := h
  refine ⟨te, fun W b σ H F ρ Q E P => hs W b σ H F ρ Q E ?_, hp⟩
  revert P
  cases f ρ with
  | ok d ρ' => exact fun P v F' H' s k E' r => P v F' H' s k E' (r.top E'.sub)
  | err c ρ' => exact fun P => P
  | bad => exact fun P => P
theorem je_imp (h : JE Γ m true e f) : JE Γ m pu e f := by
  obtain ⟨te, hs, hp⟩ := h
  refine ⟨te, fun W b σ H F ρ Q E P => hs W b σ H F ρ Q E ?_, hp⟩
  revert P
  cases f ρ with
  | ok d ρ' => exact fun P v F' H' s k E' r => P v F' H' s (fun _ => k rfl) E' r
  | err c ρ' => exact fun P => P
  | bad => exact fun P => P
theorem jt_imp {f : Env → Out Bool} (h : JT Γ true e f) : JT Γ pu e f := by
  obtain ⟨te, hs, hp⟩ := h
  refine ⟨te, fun W b σ H F ρ Q E P => hs W b σ H F ρ Q E ?_, hp⟩
  revert P
  cases f ρ with
  | ok d ρ' => exact fun P v F' H' s k E' r => P v F' H' s (fun _ => k rfl) E' r
  | err c ρ' => exact fun P => P
  | bad => exact fun P => P
end
end PD
namespace PD
open PySem PySem.Spec L2

section
variable {Γ : Gam} {m ma : Md} {pu pb : Bool} {W : WX} {pos : Pos}
/-! ### constants and names -/
def dC (d : D) : Env → Out D := fun ρ => .ok d ρ
def dVar (i : Nat) : Env → Out D := fun ρ =>
  match ρ[i]? with
  | some (some (.fro d)) => .ok d ρ
  | some (some (.own d)) => .ok d (ρ.set i (some (.fro d)))
  | _ => .bad
def dTop (i : Nat) : Env → Out D := fun ρ =>
  match ρ[i]? with
  | some (some (.fro d)) => .ok d ρ
  | some (some (.own d)) => .ok d ρ
  | some (some (.arg d)) => .ok d ρ
  | _ => .bad
theorem sem_const {mg : Str → Option Value} {v : V} {d : D} (h : ∀ F, Rep F v d) : Sem mg true W (VRg .fro) (tC v) (dC d) := fun b σ H F ρ Q E P =>
  Post.done (R := VRg .fro) P E (Grow.refl E.sub) (h F)
theorem je_int {i j} : JE Γ .fro true (.Constant (.int i) j pos) (dC (.int i)) := ⟨fun _ => tC (.int i), fun _ => sem_const fun _ => .int i, fun _ _ _ _ => pe_int⟩
theorem je_bl {i j} : JE Γ .fro true (.Constant (.bool i) j pos) (dC (.bl i)) := ⟨fun _ => tC (.bl i), fun _ => sem_const fun _ => .bl i, fun _ _ _ _ => pe_bl⟩
theorem je_non {j} : JE Γ .fro true (.Constant .none j pos) (dC .non) := ⟨fun _ => tC .non, fun _ => sem_const fun _ => .non, fun _ _ _ _ => pe_non⟩
theorem je_str {i j} : JE Γ .fro true (.Constant (.str i) j pos) (dC (.str i)) := ⟨fun _ => tC (.str i), fun _ => sem_const fun _ => .str i, fun _ _ _ _ => pe_str⟩
theorem je_gint {x : Str} {i : Int} (hg : Γ.sc.names.lookup x = some .globalImplicit) (hm : ∃ t, Γ.mg x = some (.int i t)) (hd : (x == ("__debug__" : Str)) = false) : JE Γ .fro true (.Name x pos) (dC (.int i)) :=
  let ⟨t, hm⟩ := hm; ⟨fun _ => tC (.int i), fun _ => sem_const fun _ => .int i, fun X W h c => pe_glob (show X.env.scope.names.lookup x = some .globalImplicit by rw [h.sc]; exact hg) (by rw [h.mg]; exact hm) ⟨t, rfl⟩ hd⟩
theorem je_gstr {x : Str} {i : Str} (hg : Γ.sc.names.lookup x = some .globalImplicit) (hm : ∃ t, Γ.mg x = some (.str i t)) (hd : (x == ("__debug__" : Str)) = false) : JE Γ .fro true (.Name x pos) (dC (.str i)) :=
  let ⟨t, hm⟩ := hm; ⟨fun _ => tC (.str i), fun _ => sem_const fun _ => .str i, fun X W h c => pe_glob (show X.env.scope.names.lookup x = some .globalImplicit by rw [h.sc]; exact hg) (by rw [h.mg]; exact hm) ⟨t, rfl⟩ hd⟩
theorem je_gty {x : Str} {T : String} (hg : Γ.sc.names.lookup x = some .globalImplicit) (hm : Γ.mg x = none) (hv : bootBuiltins x = some (.type T)) (hn : x ≠ "__name__") (hd : (x == ("__debug__" : Str)) = false) : JE Γ .fro true (.Name x pos) (dC (.ty T)) :=
  ⟨fun _ => tC (.ty T), fun _ => sem_const fun _ => .ty T, fun X W h c => pe_bltn (show X.env.scope.names.lookup x = some .globalImplicit by rw [h.sc]; exact hg) (by rw [h.mg]; exact hm) hv rfl hn hd⟩
theorem je_var (i : Nat) {x : Str} (hN : Γ.N[i]? = some x) (hv : Vis Γ.sc x) (hd : (x == ("__debug__" : Str)) = false) (hcd : (x == ("__classdict__" : Str)) = false) : JE Γ .fro true (.Name x pos) (dVar i) := by
  refine ⟨fun _ => tVar i, fun W b σ H F ρ Q E P => ?_, fun X W h c => pe_var (by rw [h.N]; exact hN) (by rw [h.sc]; exact hv) hd hcd⟩
  unfold dVar at P
  split at P
  · rename_i d hi
    obtain ⟨v, h1, h2⟩ := E.slot i _ hi
    exact ⟨v, h1, Post.done (R := VRg .fro) P E (Grow.refl E.sub) h2⟩
  · rename_i d hi
    obtain ⟨F', v, h1, h2, h3, h4, h5⟩ := E.freeze hi
    have hl : i < ρ.length := (List.getElem?_eq_some_iff.mp hi).1
    refine ⟨v, h1, P v F' H ⟨h2, fun _ _ h _ => h, fun c hc hn => h5 c (hn i _ hi rfl), fun _ h => h, fun c hn j s hj hs => ?_, fun j t hj => ?_⟩ (fun _ => .refl _) h4 h3⟩
    · by_cases e : i = j
      · subst e
        rw [List.getElem?_set_self hl] at hj
        cases hj; cases hs
      · rw [List.getElem?_set_ne e] at hj
        exact hn j s hj hs
    · by_cases e : i = j
      · subst e; exact ⟨_, hi⟩
      · rw [List.getElem?_set_ne e] at hj
        exact ⟨t, hj⟩
  · exact P.elim
theorem je_varT (i : Nat) {x : Str} (hN : Γ.N[i]? = some x) (hv : Vis Γ.sc x) (hd : (x == ("__debug__" : Str)) = false) (hcd : (x == ("__classdict__" : Str)) = false) : JE Γ .top true (.Name x pos) (dTop i) := by
  refine ⟨fun _ => tVar i, fun W b σ H F ρ Q E P => ?_, fun X W h c => pe_var (by rw [h.N]; exact hN) (by rw [h.sc]; exact hv) hd hcd⟩
  unfold dTop at P
  split at P
  · rename_i d hi
    obtain ⟨v, h1, h2⟩ := E.slot i _ hi
    exact ⟨v, h1, Post.done (R := VRg .top) P E (Grow.refl E.sub) (Rep.top E.sub h2)⟩
  · rename_i d hi
    obtain ⟨v, h1, p, e, n, h0, t⟩ := E.slot i _ hi
    exact ⟨v, h1, Post.done (R := VRg .top) P E (Grow.refl E.sub) t⟩
  · rename_i d hi
    obtain ⟨v, h1, p, e, n, h0, t⟩ := E.slot i _ hi
    exact ⟨v, h1, Post.done (R := VRg .top) P E (Grow.refl E.sub) t⟩
  · exact P.elim

/-! ### operators -/
def OpSem (m : Md) (r : R2) (g : D → D → Option D) : Prop :=
  ∀ F H x y d e c Q, Same F H → Top F H x d → Top F H y e → g d e = some c → (∀ v F' H', Grow F H F' H' → VRg m H F' H' v c → Q v H') → r x y H Q
def lift (o : Option D) (ρ : Env) : Out D := match o with | some c => .ok c ρ | none => .bad
def dOp (g : D → D → Option D) (fa fb : Env → Out D) : Env → Out D := fun ρ => (fa ρ).bind fun d ρ1 => (fb ρ1).bind fun e ρ2 => lift (g d e) ρ2
theorem sem_op {mg : Str → Option Value} {ta tb : TE} {fa fb : Env → Out D} {r : R2} {g : D → D → Option D} (hk : (ma = .fro ∨ pb = true) ∧ ma ≠ .own ∧ (pu = true → pb = true)) (so : OpSem m r g) (sa : Sem mg pu W (VRg ma) ta fa) (sb : Sem mg pb W (VRg .top) tb fb) :
    Sem mg pu W (VRg m) (tOp r ta tb) (dOp g fa fb) := fun b σ H F ρ Q E P =>
  sa b σ H F ρ _ E (P.bind (pa := pu) id fun d ρ1 x F1 H1 s1 k1 E1 r1 P1 => sb b σ H1 F1 ρ1 _ E1 (P1.bind (pa := pb) hk.2.2 fun e ρ2 y F2 H2 s2 k2 E2 r2 P2 => by
    unfold lift at P2
    cases q : g d e with
    | none => rw [q] at P2; exact P2.elim
    | some c =>
      rw [q] at P2
      have rx : Top F2 H2 x d := (VRg.stay E1 hk.2.1 r1 s2 (hk.1.imp id k2)).top E2.sub
      refine so F2 H2 x y d e c Q E2.sub rx r2 q fun v F' H' gr rv => ?_
      exact Post.done (R := fun _ => VRg m H) P2 E2 gr (rv.back fun c h => s2.lv c (s1.lv c h))))
theorem je_op {op : Operator} {a e : Expr} {fa fb : Env → Out D} {r : R2} {g : D → D → Option D} (ho : ∀ X, Γ.Has X → OpR X (binaryOp op) r) (so : OpSem m r g) (ha : JE Γ ma pu a fa) (hb : JE Γ .top pb e fb)
    (hk : (ma = .fro ∨ pb = true) ∧ ma ≠ .own ∧ (pu = true → pb = true) := by decide) : JE Γ m pu (.BinOp a op e pos) (dOp g fa fb) := by
  obtain ⟨ta, sa, pa⟩ := ha
  obtain ⟨tb, sb, pb'⟩ := hb
  exact ⟨fun W => tOp r (ta W) (tb W), fun W => sem_op hk so (sa W) (sb W), fun X W h c => pe_op (ho X h) (pa X W h c) (pb' X W h c)⟩
end

/-! ### the operators by values -/
def addD : D → D → Option D
  | .int i, .int j => some (.int (i + j))
  | .str x, .str y => if x.length + y.length ≤ sizeLine then some (.str (x ++ y)) else none
  | .lst a, .lst b => if a.length + b.length ≤ sizeLine then some (.lst (a ++ b)) else none
  | .tup a, .tup b => if a.length + b.length ≤ sizeLine then some (.tup (a ++ b)) else none
  | _, _ => none
def subD : D → D → Option D
  | .int i, .int j => some (.int (i - j))
  | _, _ => none
def mulD : D → D → Option D
  | .int i, .int j => if (-(2 ^ 64) < i ∧ i < 2 ^ 64) ∨ (-(2 ^ 64) < j ∧ j < 2 ^ 64) then some (.int (i * j)) else none
  | _, _ => none
def modD : D → D → Option D
  | .int i, .int j => if 0 < j then some (.int (i % j)) else none
  | _, _ => none
def divD : D → D → Option D
  | .int i, .int j => if 0 < j ∧ j < 1073741824 then some (.int (i / j)) else none
  | _, _ => none
def powD : D → D → Option D
  | .int i, .int j => if 0 ≤ j ∧ j ≤ 1000000 ∧ i.natAbs < 2 ^ 64 then some (.int (i ^ j.toNat)) else none
  | _, _ => none
abbrev rAddI : R2 := rI0 fun i j => .int (i + j)
abbrev rAddS : R2 := fun x y H Q => ∃ i j, x = .str i ∧ y = .str j ∧ i.length + j.length ≤ sizeLine ∧ Q (.str (i ++ j)) H
def rAddA (K : PySem.W.Frag) : R2 := fun x y H Q => (rAddI x y H Q ∨ rAddS x y H Q) ∨ (rCat x y H Q ∨ rCatA K x y H Q)
section
variable {Γ : Gam} {m ma : Md} {pu pb : Bool} {W : WX} {pos : Pos} {a e : Expr} {fa fb : Env → Out D}
theorem sqT_of {K : PySem.W.Frag} {F H : Hp} (k : Same F H) {p : Addr} {vs : List V} (e : F p = some (.tup vs)) : SqT K H p vs := SqT.of (k _ _ e)
theorem so_add {K : PySem.W.Frag} : OpSem .fro (rAddA K) addD := by
  intro F H x y d e c Q k hx hy hg q
  cases hx with
  | int i =>
    cases hy with
    | int j =>
      cases hg
      exact .inl (.inl ⟨i, j, rfl, rfl, q _ F H (Grow.refl k) (.int _)⟩)
    | _ => cases hg
  | str i =>
    cases hy with
    | str j =>
      unfold addD at hg
      dsimp only at hg
      split at hg
      · rename_i hl
        cases hg
        exact .inl (.inr ⟨i, j, rfl, rfl, hl, q _ F H (Grow.refl k) (.str _)⟩)
      · cases hg
    | _ => cases hg
  | @lst p vs ds e1 h1 r1 =>
    cases hy with
    | @lst p2 vs2 ds2 e2 h2 r2 =>
      unfold addD at hg
      dsimp only at hg
      split at hg
      · rename_i hl
        cases hg
        have hl' : vs.length + vs2.length ≤ sizeLine := by rw [r1.length, r2.length]; exact hl
        refine .inr (.inl ⟨p, p2, vs, vs2, rfl, rfl, e1, e2, hl', fun z hz => ?_⟩)
        have g : Grow F H (upd F z (.lst (vs ++ vs2))) (upd H z (.lst (vs ++ vs2))) := Grow.alloc k hz
        exact q _ _ _ g (.lst upd_same (by rw [List.length_append]; exact hl') ((r1.mono g.f).append (r2.mono g.f)))
      · cases hg
    | _ => cases hg
  | @tup p vs ds e1 h1 r1 =>
    cases hy with
    | @tup p2 vs2 ds2 e2 h2 r2 =>
      unfold addD at hg
      dsimp only at hg
      split at hg
      · rename_i hl
        cases hg
        have hl' : vs.length + vs2.length ≤ sizeLine := by rw [r1.length, r2.length]; exact hl
        refine .inr (.inr ⟨p, p2, vs, vs2, rfl, rfl, sqT_of k e1, sqT_of k e2, hl', fun ex => ?_, fun ex ey => ?_, fun ex ey z hz => ?_⟩)
        · subst ex
          cases r1
          rw [List.nil_append] at q
          exact q _ F H (Grow.refl k) (.tup e2 h2 r2)
        · subst ey
          cases r2
          rw [List.append_nil] at q
          exact q _ F H (Grow.refl k) (.tup e1 h1 r1)
        · have g : Grow F H (upd F z (.tup (vs ++ vs2))) (upd H z (.tup (vs ++ vs2))) := Grow.alloc k hz
          exact q _ _ _ g (.tup upd_same (by rw [List.length_append]; exact hl') ((r1.mono g.f).append (r2.mono g.f)))
      · cases hg
    | _ => cases hg
  | _ => cases hg
theorem je_add (ha : JE Γ ma pu a fa) (hb : JE Γ .top pb e fb) (hk : (ma = .fro ∨ pb = true) ∧ ma ≠ .own ∧ (pu = true → pb = true) := by decide) : JE Γ .fro pu (.BinOp a .Add e pos) (dOp addD fa fb) :=
  je_op (r := rAddA Γ.K) (fun X h => by rw [← h.K]; exact (op_add.or op_add_str).or (op_cat.or op_catA)) so_add ha hb hk
/-- a + b of lists, to be changed later -/
def catD : D → D → Option D
  | .lst a, .lst b => if a.length + b.length ≤ sizeLine then some (.lst (a ++ b)) else none
  | _, _ => none
theorem so_cat : OpSem .own rCat catD := by
  intro F H x y d e c Q k hx hy hg q
  cases hx with
  | @lst p vs ds e1 h1 r1 =>
    cases hy with
    | @lst p2 vs2 ds2 e2 h2 r2 =>
      unfold catD at hg
      dsimp only at hg
      split at hg
      · rename_i hl
        cases hg
        have hl' : vs.length + vs2.length ≤ sizeLine := by rw [r1.length, r2.length]; exact hl
        refine ⟨p, p2, vs, vs2, rfl, rfl, e1, e2, hl', fun z hz => ?_⟩
        have g : Grow F H F (upd H z (.lst (vs ++ vs2))) := Grow.allocH k hz
        exact q _ _ _ g ⟨z, rfl, hz, k.free hz, .lst upd_same (by rw [List.length_append]; exact hl') (r1.append r2)⟩
      · cases hg
    | _ => cases hg
  | _ => cases hg
theorem je_cat (ha : JE Γ ma pu a fa) (hb : JE Γ .top pb e fb) (hk : (ma = .fro ∨ pb = true) ∧ ma ≠ .own ∧ (pu = true → pb = true) := by decide) : JE Γ .own pu (.BinOp a .Add e pos) (dOp catD fa fb) :=
  je_op (r := rCat) (fun X h => op_cat) so_cat ha hb hk
theorem so_int {C : Int → Int → Prop} [∀ i j, Decidable (C i j)] {g : Int → Int → Int} {G : D → D → Option D} (h : ∀ d e c, G d e = some c → ∃ i j, d = .int i ∧ e = .int j ∧ C i j ∧ c = .int (g i j)) : OpSem .fro (rI C fun i j => .int (g i j)) G := by
  intro F H x y d e c Q k hx hy hg q
  obtain ⟨i, j, rfl, rfl, hc, rfl⟩ := h d e c hg
  cases hx
  cases hy
  exact ⟨i, j, rfl, rfl, hc, q _ F H (Grow.refl k) (.int _)⟩
theorem je_sub (ha : JE Γ ma pu a fa) (hb : JE Γ .top pb e fb) (hk : (ma = .fro ∨ pb = true) ∧ ma ≠ .own ∧ (pu = true → pb = true) := by decide) : JE Γ .fro pu (.BinOp a .Sub e pos) (dOp subD fa fb) := by
  refine je_op (r := rI (fun _ _ => True) fun i j => .int (i - j)) (fun X h => opI fun _ _ _ _ _ _ _ _ q => PyProof.Rows.sub_int q) (so_int fun d e c hg => ?_) ha hb hk
  cases d <;> cases e <;> first | cases hg; exact ⟨_, _, rfl, rfl, trivial, rfl⟩ | cases hg
theorem je_mul (ha : JE Γ ma pu a fa) (hb : JE Γ .top pb e fb) (hk : (ma = .fro ∨ pb = true) ∧ ma ≠ .own ∧ (pu = true → pb = true) := by decide) : JE Γ .fro pu (.BinOp a .Mult e pos) (dOp mulD fa fb) := by
  refine je_op (r := rI CMul fun i j => .int (i * j)) (fun X h => op_mul) (fun F H x y d e c Q k hx hy hg q => ?_) ha hb hk
  cases d <;> cases e <;> first | (cases hg; done) | skip
  cases hx; cases hy
  unfold mulD at hg
  dsimp only at hg
  split at hg
  · rename_i hc
    cases hg
    exact ⟨_, _, rfl, rfl, hc, q _ F H (Grow.refl k) (.int _)⟩
  · cases hg
theorem je_mod (ha : JE Γ ma pu a fa) (hb : JE Γ .top pb e fb) (hk : (ma = .fro ∨ pb = true) ∧ ma ≠ .own ∧ (pu = true → pb = true) := by decide) : JE Γ .fro pu (.BinOp a .Mod e pos) (dOp modD fa fb) := by
  refine je_op (r := rI (fun _ j => 0 < j) fun i j => .int (i % j)) (fun X h => op_mod) (fun F H x y d e c Q k hx hy hg q => ?_) ha hb hk
  cases d <;> cases e <;> first | (cases hg; done) | skip
  cases hx; cases hy
  unfold modD at hg
  dsimp only at hg
  split at hg
  · rename_i hc
    cases hg
    exact ⟨_, _, rfl, rfl, hc, q _ F H (Grow.refl k) (.int _)⟩
  · cases hg
theorem je_div (ha : JE Γ ma pu a fa) (hb : JE Γ .top pb e fb) (hk : (ma = .fro ∨ pb = true) ∧ ma ≠ .own ∧ (pu = true → pb = true) := by decide) : JE Γ .fro pu (.BinOp a .FloorDiv e pos) (dOp divD fa fb) := by
  refine je_op (r := rI CDiv fun i j => .int (i / j)) (fun X h => op_fdiv) (fun F H x y d e c Q k hx hy hg q => ?_) ha hb hk
  cases d <;> cases e <;> first | (cases hg; done) | skip
  cases hx; cases hy
  unfold divD at hg
  dsimp only at hg
  split at hg
  · rename_i hc
    cases hg
    exact ⟨_, _, rfl, rfl, hc, q _ F H (Grow.refl k) (.int _)⟩
  · cases hg
theorem je_pow (ha : JE Γ ma pu a fa) (hb : JE Γ .top pb e fb) (hk : (ma = .fro ∨ pb = true) ∧ ma ≠ .own ∧ (pu = true → pb = true) := by decide) : JE Γ .fro pu (.BinOp a .Pow e pos) (dOp powD fa fb) := by
  refine je_op (r := rI CPow fun i j => .int (i ^ j.toNat)) (fun X h => op_pow) (fun F H x y d e c Q k hx hy hg q => ?_) ha hb hk
  cases d <;> cases e <;> first | (cases hg; done) | skip
  cases hx; cases hy
  unfold powD at hg
  dsimp only at hg
  split at hg
  · rename_i hc
    cases hg
    exact ⟨_, _, rfl, rfl, hc, q _ F H (Grow.refl k) (.int _)⟩
  · cases hg
def negD : D → Option D
  | .int i => some (.int (-i))
  | _ => none
def dUn (g : D → Option D) (fa : Env → Out D) : Env → Out D := fun ρ => (fa ρ).bind fun d ρ1 => lift (g d) ρ1
theorem je_neg (ha : JE Γ ma pu a fa) : JE Γ .fro pu (.UnaryOp .USub a pos) (dUn negD fa) := by
  obtain ⟨ta, sa, pa⟩ := ha
  refine ⟨fun W => tUn (rU fun i => .int (-i)) (ta W), fun W b σ H F ρ Q E P => ?_, fun X W h c => pe_un un_neg (pa X W h c)⟩
  refine sa W b σ H F ρ _ E (P.bind (pa := pu) id fun d ρ1 x F1 H1 s1 k1 E1 r1 P1 => ?_)
  have t := r1.top E1.sub
  cases t with
  | int i => exact ⟨i, rfl, Post.done (R := fun _ => VRg .fro H) P1 E1 (Grow.refl E1.sub) (.int _)⟩
  | _ => exact (P1 : False).elim
end
end PD
namespace PD
open PySem PySem.Spec L2

/-! ### == -/
mutual
def pyD : D → PyData
  | .non => .none
  | .bl b => .bool b
  | .int i => .int i
  | .str s => .str s
  | .lst l => .list (pyL l)
  | .tup l => .tuple (pyL l)
  | .dct _ _ => .dict []
  | .ty _ => .dict []
def pyL : List D → List PyData
  | [] => []
  | d :: l => pyD d :: pyL l
end
abbrev okD (d : D) : Bool := SeqAt.shaped (pyD d)
abbrev eqB (d e : D) : Bool := PyData.eqv (pyD d) (pyD e)
mutual
theorem Rep.dp {K : PySem.W.Frag} {F H : Hp} (k : Same F H) : ∀ {v : V} {d : D}, Rep F v d → (pyD d).canLay0 = true → Dp K H v (pyD d)
  | _, _, .non, _ => .non
  | _, _, .bl b, _ => .bl b
  | _, _, .int i, _ => .int i
  | _, _, .str s, _ => .str s
  | _, _, .lst e _ r, c => .lst (SqL.of (k _ _ e)) (RepL.dp k r c)
  | _, _, .tup e _ r, c => .tup (SqT.of (k _ _ e)) (RepL.dp k r c)
  | _, _, .ty _, c => by cases c
  | _, _, .dctK _ _ _ _, c => by cases c
  | _, _, .dctT _ _ _ _, c => by cases c
theorem RepL.dp {K : PySem.W.Frag} {F H : Hp} (k : Same F H) : ∀ {v : List V} {d : List D}, RepL F v d → PyData.canLayAll0 (pyL d) = true → DpAll K H v (pyL d)
  | _, _, .nil, _ => .nil
  | _, _, .cons a r, c => by
    have c' : (PyData.canLay0 (pyD _) && PyData.canLayAll0 (pyL _)) = true := c
    rw [Bool.and_eq_true] at c'
    exact .cons (Rep.dp k a c'.1) (RepL.dp k r c'.2)
end
theorem Top.dp {K : PySem.W.Frag} {F H : Hp} (k : Same F H) {v : V} {d : D} (h : Top F H v d) (c : (pyD d).canLay0 = true) : Dp K H v (pyD d) := by
  cases h with
  | non => exact .non
  | bl b => exact .bl b
  | int i => exact .int i
  | str s => exact .str s
  | ty _ => cases c
  | lst e _ r => exact .lst (SqL.of e) (RepL.dp k r c)
  | tup e _ r => exact .tup (SqT.of (k _ _ e)) (RepL.dp k r c)
  | dctK _ _ _ _ => cases c
  | dctT _ _ _ _ => cases c
theorem lay_of {d : D} (h : okD d = true) : (pyD d).canLay0 = true := SeqAt.canLay_of_shaped h
def eqD (d e : D) : Option D := if okD d = true ∧ okD e = true then some (.bl (eqB d e)) else none
def neD (d e : D) : Option D := if okD d = true ∧ okD e = true then some (.bl (!eqB d e)) else none
def ltD : D → D → Option D
  | .int i, .int j => some (.bl (decide (i < j)))
  | .str i, .str j => some (.bl (decide (i.cps.toList < j.cps.toList)))
  | _, _ => none
def leD : D → D → Option D
  | .int i, .int j => some (.bl (decide (i ≤ j)))
  | _, _ => none
def gtD : D → D → Option D
  | .int i, .int j => some (.bl (decide (j < i)))
  | _, _ => none
def geD : D → D → Option D
  | .int i, .int j => some (.bl (decide (j ≤ i)))
  | _, _ => none
def D.isNon : D → Bool
  | .non => true
  | _ => false
def isD (d : D) : D → Option D
  | .non => some (.bl d.isNon)
  | _ => none
def isnotD (d : D) : D → Option D
  | .non => some (.bl (!d.isNon))
  | _ => none
def D.flat : D → Bool
  | .non | .bl _ | .int _ | .str _ => true
  | _ => false
def D.key1 : D → Option Key
  | .int i => some (Sum.inl i)
  | .str s => some (Sum.inr s)
  | _ => none
def keys1 : List D → Option (List Key)
  | [] => some []
  | d :: l => match d.key1, keys1 l with
    | some k, some r => some (k :: r)
    | _, _ => none
def D.key : D → Option DK
  | .int i => some (.inl (.inl i))
  | .str s => some (.inl (.inr s))
  | .tup l => (keys1 l).map .inr
  | _ => none
def dget (l : List (DK × D)) (k : DK) : Option D := (l.find? fun p => decide (p.1 = k)).map (·.2)
/-! ### dicts by values -/
section
variable {F H : Hp}
theorem RepK.val : ∀ {ks : List (Key × V)} {ds : List (DK × D)} (k : Key), RepK F ks ds → (∃ v d, valV ks k = some v ∧ dget ds (.inl k) = some d ∧ Rep F v d) ∨ (valV ks k = none ∧ dget ds (.inl k) = none)
  | _, _, k, .nil => .inr ⟨rfl, rfl⟩
  | _, _, k, .cons (k := k0) (v := v) (d := d) a r => by
    by_cases e : k0 = k
    · subst e
      exact .inl ⟨v, d, valV_pos rfl, by simp [dget, List.find?_cons], a⟩
    · have e2 : ¬ (Sum.inl k0 : DK) = .inl k := fun z => e (Sum.inl.inj z)
      rcases RepK.val k r with ⟨v', d', h1, h2, h3⟩ | ⟨h1, h2⟩
      · exact .inl ⟨v', d', by rw [valV_neg e]; exact h1, by unfold dget at h2 ⊢; rw [List.find?_cons, decide_eq_false e2]; exact h2, h3⟩
      · exact .inr ⟨by rw [valV_neg e]; exact h1, by unfold dget at h2 ⊢; rw [List.find?_cons, decide_eq_false e2]; exact h2⟩
theorem RepT.val : ∀ {ks : List (List Key × V)} {ds : List (DK × D)} (k : List Key), RepT F ks ds → (∃ v d, valV ks k = some v ∧ dget ds (.inr k) = some d ∧ Rep F v d) ∨ (valV ks k = none ∧ dget ds (.inr k) = none)
  | _, _, k, .nil => .inr ⟨rfl, rfl⟩
  | _, _, k, .cons (k := k0) (v := v) (d := d) a r => by
    by_cases e : k0 = k
    · subst e
      exact .inl ⟨v, d, valV_pos rfl, by simp [dget, List.find?_cons], a⟩
    · have e2 : ¬ (Sum.inr k0 : DK) = .inr k := fun z => e (Sum.inr.inj z)
      rcases RepT.val k r with ⟨v', d', h1, h2, h3⟩ | ⟨h1, h2⟩
      · exact .inl ⟨v', d', by rw [valV_neg e]; exact h1, by unfold dget at h2 ⊢; rw [List.find?_cons, decide_eq_false e2]; exact h2, h3⟩
      · exact .inr ⟨by rw [valV_neg e]; exact h1, by unfold dget at h2 ⊢; rw [List.find?_cons, decide_eq_false e2]; exact h2⟩
theorem RepK.noT : ∀ {ks : List (Key × V)} {ds : List (DK × D)} (k : List Key), RepK F ks ds → dget ds (.inr k) = none
  | _, _, k, .nil => rfl
  | _, _, k, .cons a r => by
    unfold dget
    rw [List.find?_cons]
    exact RepK.noT k r
theorem RepT.noK : ∀ {ks : List (List Key × V)} {ds : List (DK × D)} (k : Key), RepT F ks ds → dget ds (.inl k) = none
  | _, _, k, .nil => rfl
  | _, _, k, .cons a r => by
    unfold dget
    rw [List.find?_cons]
    exact RepT.noK k r
theorem keys1_of : ∀ {vs : List V} {l : List D} {ks : List Key}, RepL F vs l → keys1 l = some ks → vs = ks.map kV
  | _, _, _, .nil, e => by cases e; rfl
  | _, _, _, .cons (d := d) (ds := ds) a r, e => by
    unfold keys1 at e
    cases q1 : d.key1 with
    | none => rw [q1] at e; cases e
    | some k =>
      cases q2 : keys1 ds with
      | none => rw [q1, q2] at e; cases e
      | some rs =>
        rw [q1, q2] at e
        cases e
        rw [keys1_of r q2]
        cases a <;> first | (cases q1; rfl) | cases q1
/-- what a key asks of a dict -/
theorem dget_of (k : Same F H) {x y : V} {ds : List (DK × D)} {e : D} {kk : DK} {d : D} {tk : Bool} (hx : Top F H x (.dct tk ds)) (hy : Top F H y e) (hk : e.key = some kk) (hg : dget ds kk = some d) :
    ∃ a v, x = .ref a ∧ DGet H a y (some v) ∧ Rep F v d := by
  cases hx with
  | @dctK p ks _ e1 h1 n1 r1 =>
    cases kk with
    | inl k1 =>
      rcases r1.val k1 with ⟨v, d', g1, g2, g3⟩ | ⟨_, g2⟩
      · rw [hg] at g2
        cases g2
        refine ⟨p, v, rfl, ?_, g3⟩
        have ey : y = kV k1 := by
          cases hy <;> first | (cases hk; rfl) | (cases hk) | skip
          all_goals (unfold D.key at hk; first | (simp at hk; done) | skip)
        subst ey
        rw [← g1]
        exact DGet.k e1
      · rw [hg] at g2; cases g2
    | inr k2 => rw [r1.noT k2] at hg; cases hg
  | @dctT p ks _ e1 h1 n1 r1 =>
    cases kk with
    | inl k1 => rw [r1.noK k1] at hg; cases hg
    | inr k2 =>
      rcases r1.val k2 with ⟨v, d', g1, g2, g3⟩ | ⟨_, g2⟩
      · rw [hg] at g2
        cases g2
        refine ⟨p, v, rfl, ?_, g3⟩
        cases hy with
        | @tup p2 vs2 ds2 e2 h2 r2 =>
          have hk : Option.map Sum.inr (keys1 ds2) = some (Sum.inr k2 : DK) := hk
          cases q : keys1 ds2 with
          | none => rw [q] at hk; cases hk
          | some k3 =>
            rw [q] at hk
            cases hk
            have := keys1_of r2 q
            subst this
            rw [← g1]
            exact DGet.t e1 (k _ _ e2)
        | _ => cases hk
      · rw [hg] at g2; cases g2
/-- the same, there or not -/
theorem dgetO_of (k : Same F H) {x y : V} {ds : List (DK × D)} {e : D} {kk : DK} {t : Bool} (hx : Top F H x (.dct t ds)) (hy : Top F H y e) (hk : e.key = some kk) (ht : t = kk.isRight) :
    ∃ a o, x = .ref a ∧ DGet H a y o ∧ o.isSome = (dget ds kk).isSome := by
  cases q : dget ds kk with
  | some d =>
    obtain ⟨a, v, h1, h2, _⟩ := dget_of k hx hy hk q
    exact ⟨a, some v, h1, h2, rfl⟩
  | none =>
    cases hx with
    | @dctK p ks _ e1 h1 n1 r1 =>
      cases kk with
      | inl k1 =>
        rcases r1.val k1 with ⟨v, d', g1, g2, g3⟩ | ⟨g1, _⟩
        · rw [q] at g2; cases g2
        · refine ⟨p, none, rfl, ?_, rfl⟩
          have ey : y = kV k1 := by
            cases hy <;> first | (cases hk; rfl) | (cases hk) | skip
            all_goals (unfold D.key at hk; first | (simp at hk; done) | skip)
          subst ey
          rw [← g1]
          exact DGet.k e1
      | inr k2 => cases ht
    | @dctT p ks _ e1 h1 n1 r1 =>
      cases kk with
      | inl k1 => cases ht
      | inr k2 =>
        rcases r1.val k2 with ⟨v, d', g1, g2, g3⟩ | ⟨g1, _⟩
        · rw [q] at g2; cases g2
        · refine ⟨p, none, rfl, ?_, rfl⟩
          cases hy with
          | @tup p2 vs2 ds2 e2 h2 r2 =>
            have hk : Option.map Sum.inr (keys1 ds2) = some (Sum.inr k2 : DK) := hk
            cases q : keys1 ds2 with
            | none => rw [q] at hk; cases hk
            | some k3 =>
              rw [q] at hk
              cases hk
              have := keys1_of r2 q
              subst this
              rw [← g1]
              exact DGet.t e1 (k _ _ e2)
          | _ => cases hk
end

def subStr (i j : Str) : Bool := !(Builtin.Str.occurrences j i 0 j.length 1).isEmpty
def inB (d : D) : D → Option Bool
  | .lst l => if okD d = true ∧ okD (.lst l) = true then some (l.any fun z => eqB z d) else none
  | .tup l => if d.flat = true ∧ l.all D.flat = true then some (l.any fun z => eqB z d) else none
  | .str j => match d with | .str i => some (subStr i j) | _ => none
  | .dct t l => match d.key with
    | some kk => if t = kk.isRight then some (dget l kk).isSome else none
    | none => none
  | _ => none
def inD (d e : D) : Option D := (inB d e).map D.bl
def ninD (d e : D) : Option D := (inB d e).map fun b => D.bl (!b)

section
variable {Γ : Gam} {m ma : Md} {pu pb : Bool} {W : WX} {pos : Pos} {a e : Expr} {fa fb : Env → Out D}
theorem so_eq {K : PySem.W.Frag} : OpSem .fro (rEqD K) eqD := by
  intro F H x y d e c Q k hx hy hg q
  unfold eqD at hg
  split at hg
  · rename_i h
    cases hg
    exact ⟨_, _, hx.dp k (lay_of h.1), hy.dp k (lay_of h.2), h.1, h.2, q _ F H (Grow.refl k) (.bl _)⟩
  · cases hg
theorem so_ne {K : PySem.W.Frag} : OpSem .fro (rNeD K) neD := by
  intro F H x y d e c Q k hx hy hg q
  unfold neD at hg
  split at hg
  · rename_i h
    cases hg
    exact ⟨_, _, hx.dp k (lay_of h.1), hy.dp k (lay_of h.2), h.1, h.2, q _ F H (Grow.refl k) (.bl _)⟩
  · cases hg
abbrev rLtS : R2 := fun x y H Q => ∃ i j, x = .str i ∧ y = .str j ∧ Q (.bl (decide (i.cps.toList < j.cps.toList))) H
def rLtD : R2 := fun x y H Q => rI0 (fun i j => .bl (decide (i < j))) x y H Q ∨ rLtS x y H Q
theorem so_lt : OpSem .fro rLtD ltD := by
  intro F H x y d e c Q k hx hy hg q
  cases hx with
  | int i =>
    cases hy with
    | int j => cases hg; exact .inl ⟨i, j, rfl, rfl, q _ F H (Grow.refl k) (.bl _)⟩
    | _ => cases hg
  | str i =>
    cases hy with
    | str j => cases hg; exact .inr ⟨i, j, rfl, rfl, q _ F H (Grow.refl k) (.bl _)⟩
    | _ => cases hg
  | _ => cases hg
theorem so_cmpI {p : Int → Int → Bool} {G : D → D → Option D} (h : ∀ d e c, G d e = some c → ∃ i j, d = .int i ∧ e = .int j ∧ c = .bl (p i j)) : OpSem .fro (rI0 fun i j => .bl (p i j)) G := by
  intro F H x y d e c Q k hx hy hg q
  obtain ⟨i, j, rfl, rfl, rfl⟩ := h d e c hg
  cases hx
  cases hy
  exact ⟨i, j, rfl, rfl, q _ F H (Grow.refl k) (.bl _)⟩
theorem so_le : OpSem .fro (rI0 fun i j => .bl (decide (i ≤ j))) leD := so_cmpI fun d e c hg => by
  cases d <;> cases e <;> first | cases hg; exact ⟨_, _, rfl, rfl, rfl⟩ | cases hg
theorem so_gt : OpSem .fro (rI0 fun i j => .bl (decide (j < i))) gtD := so_cmpI fun d e c hg => by
  cases d <;> cases e <;> first | cases hg; exact ⟨_, _, rfl, rfl, rfl⟩ | cases hg
theorem so_ge : OpSem .fro (rI0 fun i j => .bl (decide (j ≤ i))) geD := so_cmpI fun d e c hg => by
  cases d <;> cases e <;> first | cases hg; exact ⟨_, _, rfl, rfl, rfl⟩ | cases hg
theorem isNon_of {F H : Hp} {x : V} {d : D} (h : Top F H x d) : decide (x = .non) = d.isNon := by
  cases h <;> first | rfl | exact decide_eq_false (fun z => nomatch z)
theorem so_is : OpSem .fro (fun x y H Q => y = .non ∧ Q (.bl (decide (x = .non))) H) isD := by
  intro F H x y d e c Q k hx hy hg q
  cases hy <;> first | (cases hg; done) | skip
  cases hg
  refine ⟨rfl, ?_⟩
  rw [isNon_of hx]
  exact q _ F H (Grow.refl k) (.bl _)
theorem so_isnot : OpSem .fro (fun x y H Q => y = .non ∧ Q (.bl (!decide (x = .non))) H) isnotD := by
  intro F H x y d e c Q k hx hy hg q
  cases hy <;> first | (cases hg; done) | skip
  cases hg
  refine ⟨rfl, ?_⟩
  rw [isNon_of hx]
  exact q _ F H (Grow.refl k) (.bl _)
theorem any_py (d : D) : ∀ l : List D, (pyL l).any (fun z => PyData.eqv z (pyD d)) = l.any fun z => eqB z d
  | [] => rfl
  | z :: l => by
    show (PyData.eqv (pyD z) (pyD d) || (pyL l).any _) = _
    rw [any_py d l] <;> rfl
theorem flat_of {F H : Hp} {x : V} {d : D} (h : Top F H x d) : flatV x = d.flat := by cases h <;> rfl
theorem flatR_of {F : Hp} {x : V} {d : D} (h : Rep F x d) : flatV x = d.flat := by cases h <;> rfl
theorem flats_of {F : Hp} : ∀ {vs : List V} {ds : List D}, RepL F vs ds → vs.all flatV = ds.all D.flat
  | _, _, .nil => rfl
  | _, _, .cons a r => by rw [List.all_cons, List.all_cons, flatR_of a, flats_of r]
theorem eqV_of {F H : Hp} {x z : V} {d e : D} (hx : Top F H x d) (hz : Rep F z e) (f1 : d.flat = true) (f2 : e.flat = true) : eqV z x = eqB e d := by
  cases hx <;> first | (cases f1; done) | skip
  all_goals (cases hz <;> first | (cases f2; done) | (simp only [eqV, eqB, pyD, PyData.eqv]; done) | rfl | skip)
theorem inV_of {F H : Hp} {x : V} {d : D} (hx : Top F H x d) (f : d.flat = true) : ∀ {vs : List V} {ds : List D}, RepL F vs ds → ds.all D.flat = true → inV x vs = ds.any fun z => eqB z d
  | _, _, .nil, _ => rfl
  | _, _, .cons a r, g => by
    rw [List.all_cons, Bool.and_eq_true] at g
    show (eqV _ x || inV x _) = _
    rw [eqV_of hx a f g.1, inV_of hx f r g.2] <;> rfl
abbrev rInDc : R2 := fun x y H Q => ∃ a o, y = .ref a ∧ DGet H a x o ∧ Q (.bl o.isSome) H
abbrev rNinDc : R2 := fun x y H Q => ∃ a o, y = .ref a ∧ DGet H a x o ∧ Q (.bl (!o.isSome)) H
theorem op_inDc {X : Cx} (hu : X.A.units + 1 < cLine) : OpR X (compareOp .In) rInDc := by
  intro pins s σ H x y v u Q I rx ry h
  obtain ⟨a, o, rfl, g, q⟩ := h
  obtain rfl : u = Value.ref a := ry
  exact d_in hu I g rx fun s' I' => ⟨.bl o.isSome, H, I', rfl, q⟩
theorem op_ninDc {X : Cx} (hu : X.A.units + 1 < cLine) : OpR X (compareOp .NotIn) rNinDc := by
  intro pins s σ H x y v u Q I rx ry h
  obtain ⟨a, o, rfl, g, q⟩ := h
  obtain rfl : u = Value.ref a := ry
  exact d_notIn hu I g rx fun s' I' => ⟨.bl (!o.isSome), H, I', rfl, q⟩
def rInA (K : PySem.W.Frag) : R2 := fun x y H Q => ((rInD K x y H Q ∨ rIn K false x y H Q) ∨ ∃ i j, x = .str i ∧ y = .str j ∧ Q (.bl (!(Builtin.Str.occurrences j i 0 j.length 1).isEmpty)) H) ∨ rInDc x y H Q
def rNinA (K : PySem.W.Frag) : R2 := fun x y H Q => ((rNotInD K x y H Q ∨ rIn K true x y H Q) ∨ ∃ i j, x = .str i ∧ y = .str j ∧ Q (.bl (!(!(Builtin.Str.occurrences j i 0 j.length 1).isEmpty))) H) ∨ rNinDc x y H Q
theorem so_in {K : PySem.W.Frag} : OpSem .fro (rInA K) inD := by
  intro F H x y d e c Q k hx hy hg q
  unfold inD inB at hg
  split at hg
  · split at hg
    · rename_i h
      cases hg
      refine .inl (.inl (.inl ⟨_, pyL _, hx.dp k (lay_of h.1), hy.dp k (lay_of h.2), h.1, h.2, ?_⟩))
      rw [any_py]
      exact q _ F H (Grow.refl k) (.bl _)
    · cases hg
  · split at hg
    · rename_i h
      cases hg
      cases hy with
      | tup e2 h2 r2 =>
        refine .inl (.inl (.inr ⟨_, _, rfl, .inr (SqT.of (k _ _ e2)), by rw [flat_of hx]; exact h.1, by rw [flats_of r2]; exact h.2, ?_⟩))
        show Q (.bl (inV x _)) H
        rw [inV_of hx h.1 r2 h.2]
        exact q _ F H (Grow.refl k) (.bl _)
    · cases hg
  · split at hg
    · cases hg
      cases hx
      cases hy
      exact .inl (.inr ⟨_, _, rfl, rfl, q _ F H (Grow.refl k) (.bl _)⟩)
    · cases hg
  · split at hg
    · rename_i kk hk
      split at hg
      · rename_i ht
        obtain ⟨a, o, h1, h2, h3⟩ := dgetO_of k hy hx hk ht
        cases hg
        exact .inr ⟨a, o, h1, h2, by rw [h3]; exact q _ F H (Grow.refl k) (.bl _)⟩
      · cases hg
    · cases hg
  · cases hg
theorem so_nin {K : PySem.W.Frag} : OpSem .fro (rNinA K) ninD := by
  intro F H x y d e c Q k hx hy hg q
  unfold ninD inB at hg
  split at hg
  · split at hg
    · rename_i h
      cases hg
      refine .inl (.inl (.inl ⟨_, pyL _, hx.dp k (lay_of h.1), hy.dp k (lay_of h.2), h.1, h.2, ?_⟩))
      rw [any_py]
      exact q _ F H (Grow.refl k) (.bl _)
    · cases hg
  · split at hg
    · rename_i h
      cases hg
      cases hy with
      | tup e2 h2 r2 =>
        refine .inl (.inl (.inr ⟨_, _, rfl, .inr (SqT.of (k _ _ e2)), by rw [flat_of hx]; exact h.1, by rw [flats_of r2]; exact h.2, ?_⟩))
        show Q (.bl (!inV x _)) H
        rw [inV_of hx h.1 r2 h.2]
        exact q _ F H (Grow.refl k) (.bl _)
    · cases hg
  · split at hg
    · cases hg
      cases hx
      cases hy
      exact .inl (.inr ⟨_, _, rfl, rfl, q _ F H (Grow.refl k) (.bl _)⟩)
    · cases hg
  · split at hg
    · rename_i kk hk
      split at hg
      · rename_i ht
        obtain ⟨a, o, h1, h2, h3⟩ := dgetO_of k hy hx hk ht
        cases hg
        exact .inr ⟨a, o, h1, h2, by rw [h3]; exact q _ F H (Grow.refl k) (.bl _)⟩
      · cases hg
    · cases hg
  · cases hg
/-- a comparison, as a value and as a test -/
def dTest (f : Env → Out D) : Env → Out Bool := fun ρ => (f ρ).bind fun d ρ1 => match d with | .bl c => .ok c ρ1 | _ => .bad
theorem sem_test {mg : Str → Option Value} {te : TE} {f : Env → Out D} (h : Sem mg pu W (VRg m) te f) (hm : m ≠ .own) : Sem mg pu W VRb (tTest te) (dTest f) := fun b σ H F ρ Q E P =>
  h b σ H F ρ _ E (P.bind (pa := pu) id fun d ρ1 x F1 H1 s1 k1 E1 r1 P1 => by
    cases d with
    | bl c =>
      have t := r1.top E1.sub
      cases t
      exact ⟨c, rfl, Post.done (R := fun _ => VRb H) P1 E1 (Grow.refl E1.sub) rfl⟩
    | _ => exact (P1 : False).elim)
structure CmpR (Γ : Gam) (op : CmpOp) (g : D → D → Option D) : Prop where
  ex : ∃ r : R2, (∀ X, Γ.Has X → OpR X (compareOp op) r) ∧ OpSem .fro r g
theorem je_cmp {op : CmpOp} {g : D → D → Option D} (hc : CmpR Γ op g) (ha : JE Γ ma pu a fa) (hb : JE Γ .top pb e fb) (hm : behindInMarks op e = false) (hk : (ma = .fro ∨ pb = true) ∧ ma ≠ .own ∧ (pu = true → pb = true) := by decide) :
    JE Γ .fro pu (.Compare a [op] [e] pos) (dOp g fa fb) := by
  obtain ⟨r, ho, so⟩ := hc.ex
  obtain ⟨ta, sa, pa⟩ := ha
  obtain ⟨tb, sb, pb'⟩ := hb
  exact ⟨fun W => tOp r (ta W) (tb W), fun W => sem_op hk so (sa W) (sb W), fun X W h c => pe_cmpR (ho X h) (pa X W h c) (pb' X W h c) hm⟩
theorem jt_cmp {op : CmpOp} {g : D → D → Option D} (hc : CmpR Γ op g) (ha : JE Γ ma pu a fa) (hb : JE Γ .top pb e fb) (hm : behindInMarks op e = false) (hk : (ma = .fro ∨ pb = true) ∧ ma ≠ .own ∧ (pu = true → pb = true) := by decide) :
    JT Γ pu (.Compare a [op] [e] pos) (dTest (dOp g fa fb)) := by
  obtain ⟨r, ho, so⟩ := hc.ex
  obtain ⟨ta, sa, pa⟩ := ha
  obtain ⟨tb, sb, pb'⟩ := hb
  exact ⟨fun W => tTest (tOp r (ta W) (tb W)), fun W => sem_test (sem_op hk so (sa W) (sb W)) (by decide), fun X W h c => pt_cmpR (ho X h) (pa X W h c) (pb' X W h c) hm⟩
theorem c_eq : CmpR Γ .Eq eqD := ⟨rEqD Γ.K, fun X h => by rw [← h.K]; exact op_eqD h.hu, so_eq⟩
theorem c_ne : CmpR Γ .NotEq neD := ⟨rNeD Γ.K, fun X h => by rw [← h.K]; exact op_neD h.hu, so_ne⟩
theorem c_lt : CmpR Γ .Lt ltD := ⟨rLtD, fun X h => op_lt.or op_lt_str, so_lt⟩
theorem c_le : CmpR Γ .LtE leD := ⟨_, fun X h => op_le, so_le⟩
theorem c_gt : CmpR Γ .Gt gtD := ⟨_, fun X h => op_gt, so_gt⟩
theorem c_ge : CmpR Γ .GtE geD := ⟨_, fun X h => op_ge, so_ge⟩
theorem c_is : CmpR Γ .Is isD := ⟨_, fun X h => op_isN, so_is⟩
theorem c_isnot : CmpR Γ .IsNot isnotD := ⟨_, fun X h => op_notN, so_isnot⟩
theorem c_in : CmpR Γ .In inD := ⟨rInA Γ.K, fun X h => by rw [← h.K]; exact (((op_inD (by have := h.room.un; omega)).or op_in_seq).or op_in_str).or (op_inDc (by have := h.room.un; omega)), so_in⟩
theorem c_nin : CmpR Γ .NotIn ninD := ⟨rNinA Γ.K, fun X h => by rw [← h.K]; exact (((op_notInD (by have := h.room.un; omega)).or op_notIn_seq).or op_notin_str).or (op_ninDc (by have := h.room.un; omega)), so_nin⟩
end
end PD
namespace PD
open PySem PySem.Spec L2

section
variable {Γ : Gam} {m ma : Md} {pu pb : Bool} {W : WX} {pos : Pos} {a e c : Expr} {fa fb fc : Env → Out D} {rest : List Expr} {ta tb : Env → Out Bool} {op : BoolOp}
/-! ### tests -/
def JW (Γ : Gam) (pu : Bool) (e : Expr) (f : Env → Out Bool) : Prop :=
  ∃ te : WX → TT, (∀ W, Sem Γ.mg pu W VRb (te W) f) ∧ ∀ X W, Γ.Has X → Cond X W → PW X e (te W)
def dAndT (fa fb : Env → Out Bool) : Env → Out Bool := fun ρ => (fa ρ).bind fun c ρ1 => if c = true then fb ρ1 else .ok false ρ1
def dOrT (fa fb : Env → Out Bool) : Env → Out Bool := fun ρ => (fa ρ).bind fun c ρ1 => if c = true then .ok true ρ1 else fb ρ1
def dNotT (fa : Env → Out Bool) : Env → Out Bool := fun ρ => (fa ρ).bind fun c ρ1 => .ok (!c) ρ1
theorem jt_of (h : JW Γ pu e ta) : JT Γ pu e ta := let ⟨t, s, p⟩ := h; ⟨t, s, fun X W g c => (p X W g c).pt⟩
theorem jw_and1 (h : JT Γ pu e ta) : JW Γ pu (.BoolOp .And [e] pos) ta := let ⟨t, s, p⟩ := h; ⟨t, s, fun X W g c => pw_and1 (p X W g c)⟩
theorem jw_or1 (h : JT Γ pu e ta) : JW Γ pu (.BoolOp .Or [e] pos) ta := let ⟨t, s, p⟩ := h; ⟨t, s, fun X W g c => pw_or1 (p X W g c)⟩
theorem jw_and (h : JT Γ pu a ta) (h2 : JW Γ pu (.BoolOp .And (e :: rest) pos) tb) : JW Γ pu (.BoolOp .And (a :: e :: rest) pos) (dAndT ta tb) := by
  obtain ⟨t, s, p⟩ := h
  obtain ⟨u, s2, p2⟩ := h2
  refine ⟨fun W => tAnd (t W) (u W), fun W b σ H F ρ Q E P => ?_, fun X W g c => pw_and (p X W g c) (p2 X W g c)⟩
  refine s W b σ H F ρ _ E (P.bind (pa := pu) id fun d ρ1 x F1 H1 s1 k1 E1 r1 P1 => ?_)
  cases (show x = d from r1)
  try dsimp only at P1 ⊢
  cases d with
  | true => rw [if_pos rfl] at P1 ⊢; exact s2 W b σ H1 F1 ρ1 _ E1 P1
  | false =>
    rw [if_neg Bool.false_ne_true] at P1 ⊢
    exact Post.done (R := fun _ => VRb H) P1 E1 (Grow.refl E1.sub) rfl
theorem jw_or (h : JT Γ pu a ta) (h2 : JW Γ pu (.BoolOp .Or (e :: rest) pos) tb) : JW Γ pu (.BoolOp .Or (a :: e :: rest) pos) (dOrT ta tb) := by
  obtain ⟨t, s, p⟩ := h
  obtain ⟨u, s2, p2⟩ := h2
  refine ⟨fun W => tOr (t W) (u W), fun W b σ H F ρ Q E P => ?_, fun X W g c => pw_or (p X W g c) (p2 X W g c)⟩
  refine s W b σ H F ρ _ E (P.bind (pa := pu) id fun d ρ1 x F1 H1 s1 k1 E1 r1 P1 => ?_)
  cases (show x = d from r1)
  try dsimp only at P1 ⊢
  cases d with
  | true =>
    rw [if_pos rfl] at P1 ⊢
    exact Post.done (R := fun _ => VRb H) P1 E1 (Grow.refl E1.sub) rfl
  | false => rw [if_neg Bool.false_ne_true] at P1 ⊢; exact s2 W b σ H1 F1 ρ1 _ E1 P1
theorem jt_not (h : JT Γ pu a ta) : JT Γ pu (.UnaryOp .Not a pos) (dNotT ta) := by
  obtain ⟨t, s, p⟩ := h
  refine ⟨fun W => tNot (t W), fun W b σ H F ρ Q E P => ?_, fun X W g c => pt_not (p X W g c)⟩
  refine s W b σ H F ρ _ E (P.bind (pa := pu) id fun d ρ1 x F1 H1 s1 k1 E1 r1 P1 => ?_)
  cases (show x = d from r1)
  exact Post.done (R := fun _ => VRb H) P1 E1 (Grow.refl E1.sub) rfl
def truD : D → Option Bool
  | .non => some false
  | .bl b => some b
  | .int i => some (i != 0)
  | .str s => if s.length ≤ sizeLine then some ((s.length : Int) != 0) else none
  | .lst l => some (!l.isEmpty)
  | .tup l => some (!l.isEmpty)
  | .dct t l => if t = false then some (!l.isEmpty) else none
  | .ty _ => none
theorem RepK.empty {F : Hp} {vs : List (Key × V)} {ds : List (DK × D)} (r : RepK F vs ds) : vs.isEmpty = ds.isEmpty := by cases r <;> rfl
theorem RepL.empty {F : Hp} {vs : List V} {ds : List D} (r : RepL F vs ds) : vs.isEmpty = ds.isEmpty := by cases r <;> rfl
theorem truV_of {K : PySem.W.Frag} {F H : Hp} (k : Same F H) {x : V} {d : D} {c : Bool} (h : Top F H x d) (e : truD d = some c) : TruV K x H c := by
  cases h with
  | non => cases e; exact rfl
  | bl b => cases e; exact rfl
  | int i => cases e; exact rfl
  | str s =>
    unfold truD at e
    split at e <;> first | (rename_i q; cases q; done) | skip
    all_goals (try (split at e <;> first | (cases e; done) | skip))
    all_goals first | (rename_i hq hl; cases hq; cases e; exact ⟨hl, rfl⟩) | (cases e; exact ⟨by assumption, rfl⟩) | skip
  | lst q h r => cases e; exact .inl ⟨_, SqL.of q, by rw [r.empty]⟩
  | tup q h r => cases e; exact .inr (.inl ⟨_, SqT.of (k _ _ q), by rw [r.empty]⟩)
  | ty _ => cases e
  | dctK q _ _ r => cases e; exact .inr (.inr ⟨_, q, by rw [r.empty]⟩)
  | dctT _ _ _ _ => cases e
def dTru (f : Env → Out D) : Env → Out Bool := fun ρ => (f ρ).bind fun d ρ1 => match truD d with | some c => .ok c ρ1 | none => .bad
theorem jt_tru (h : JE Γ m pu e fa) (he : ∀ env whole, isTrue e env whole = (do let v ← whole; standAt e.pos; holding [v] (truthy v))) : JT Γ pu e (dTru fa) := by
  obtain ⟨t, s, p⟩ := h
  refine ⟨fun W => fun σ H Q => t W σ H fun x H' => ∃ k, TruV Γ.K x H' k ∧ Q k H', fun W b σ H F ρ Q E P => ?_, fun X W g c => by have q := pt_truth (p X W g c) (he X.env); rw [g.K] at q; exact q⟩
  refine s W b σ H F ρ _ E (P.bind (pa := pu) id fun d ρ1 x F1 H1 s1 k1 E1 r1 P1 => ?_)
  cases q : truD d with
  | none => rw [q] at P1; exact P1.elim
  | some k =>
    rw [q] at P1
    exact ⟨k, truV_of E1.sub (r1.top E1.sub) q, Post.done (R := fun _ => VRb H) P1 E1 (Grow.refl E1.sub) rfl⟩
/-! ### and, or, not as values -/
def dAnd (fa fb : Env → Out D) : Env → Out D := fun ρ => (fa ρ).bind fun d ρ1 => match truD d with | some true => fb ρ1 | some false => .ok d ρ1 | none => .bad
def dOr (fa fb : Env → Out D) : Env → Out D := fun ρ => (fa ρ).bind fun d ρ1 => match truD d with | some true => .ok d ρ1 | some false => fb ρ1 | none => .bad
def dNot (fa : Env → Out D) : Env → Out D := fun ρ => (fa ρ).bind fun d ρ1 => match truD d with | some c => .ok (.bl (!c)) ρ1 | none => .bad
theorem je_one (h : JE Γ m pu a fa) : JE Γ m pu (.BoolOp op [a] pos) fa := let ⟨t, s, p⟩ := h; ⟨t, s, fun X W g c => pe_one (p X W g c)⟩
theorem je_and (h : JE Γ .fro pu a fa) (h2 : JE Γ .fro pu (.BoolOp .And (e :: rest) pos) fb) : JE Γ .fro pu (.BoolOp .And (a :: e :: rest) pos) (dAnd fa fb) := by
  obtain ⟨t, s, p⟩ := h
  obtain ⟨u, s2, p2⟩ := h2
  refine ⟨fun W => tAndT Γ.K (t W) (u W), fun W b σ H F ρ Q E P => ?_, fun X W g c => by have q := pe_andT (p X W g c) (p2 X W g c); rw [g.K] at q; exact q⟩
  refine s W b σ H F ρ _ E (P.bind (pa := pu) id fun d ρ1 x F1 H1 s1 k1 E1 r1 P1 => ?_)
  cases q : truD d with
  | none => rw [q] at P1; exact P1.elim
  | some k =>
    rw [q] at P1
    refine ⟨k, truV_of E1.sub (r1.top E1.sub) q, ?_⟩
    cases k with
    | true => rw [if_pos rfl]; exact s2 W b σ H1 F1 ρ1 _ E1 P1
    | false => rw [if_neg Bool.false_ne_true]; exact Post.done (R := fun _ => VRg .fro H) P1 E1 (Grow.refl E1.sub) r1
theorem je_or (h : JE Γ .fro pu a fa) (h2 : JE Γ .fro pu (.BoolOp .Or (e :: rest) pos) fb) : JE Γ .fro pu (.BoolOp .Or (a :: e :: rest) pos) (dOr fa fb) := by
  obtain ⟨t, s, p⟩ := h
  obtain ⟨u, s2, p2⟩ := h2
  refine ⟨fun W => tOrT Γ.K (t W) (u W), fun W b σ H F ρ Q E P => ?_, fun X W g c => by have q := pe_orT (p X W g c) (p2 X W g c); rw [g.K] at q; exact q⟩
  refine s W b σ H F ρ _ E (P.bind (pa := pu) id fun d ρ1 x F1 H1 s1 k1 E1 r1 P1 => ?_)
  cases q : truD d with
  | none => rw [q] at P1; exact P1.elim
  | some k =>
    rw [q] at P1
    refine ⟨k, truV_of E1.sub (r1.top E1.sub) q, ?_⟩
    cases k with
    | true => rw [if_pos rfl]; exact Post.done (R := fun _ => VRg .fro H) P1 E1 (Grow.refl E1.sub) r1
    | false => rw [if_neg Bool.false_ne_true]; exact s2 W b σ H1 F1 ρ1 _ E1 P1
theorem je_not (h : JE Γ m pu a fa) : JE Γ .fro pu (.UnaryOp .Not a pos) (dNot fa) := by
  obtain ⟨t, s, p⟩ := h
  refine ⟨fun W => tNotT Γ.K (t W), fun W b σ H F ρ Q E P => ?_, fun X W g c => by have q := pe_notT (pos := pos) (p X W g c); rw [g.K] at q; exact q⟩
  refine s W b σ H F ρ _ E (P.bind (pa := pu) id fun d ρ1 x F1 H1 s1 k1 E1 r1 P1 => ?_)
  cases q : truD d with
  | none => rw [q] at P1; exact P1.elim
  | some k =>
    rw [q] at P1
    exact ⟨k, truV_of E1.sub (r1.top E1.sub) q, Post.done (R := fun _ => VRg .fro H) P1 E1 (Grow.refl E1.sub) (.bl _)⟩
/-! ### a if c else b -/
def dIf (fc : Env → Out Bool) (fa fb : Env → Out D) : Env → Out D := fun ρ => (fc ρ).bind fun c ρ1 => if c = true then fa ρ1 else fb ρ1
theorem Sem.later {α β : Type} {mg : Str → Option Value} {R : RV α β} {Q : β → Hp → Prop} {b : Bs} {H F1 H1 : Hp} {σ : L2.St} {ρ1 : Env} {x : Out α} (hb : ∀ {Hs Hs' F' H' v a}, R Hs' F' H' v a → (∀ c, Hs c ≠ none → Hs' c ≠ none) → R Hs F' H' v a) (k : ∀ c, H c ≠ none → H1 c ≠ none)
    (P : Post mg b pu F1 H1 σ ρ1 W (fun _ => R H) Q x) : Post mg b pu F1 H1 σ ρ1 W R Q x := by
  cases x with
  | ok d ρ2 => exact fun v F2 H2 s2 k2 E2 r2 => P v F2 H2 s2 k2 E2 (hb r2 k)
  | err c ρ2 => exact P
  | bad => exact P
theorem je_if {tc : Env → Out Bool} (hc : JT Γ pu c tc) (ha : JE Γ m pu a fa) (hb : JE Γ m pu e fb) : JE Γ m pu (.IfExp c a e pos) (dIf tc fa fb) := by
  obtain ⟨t, s, p⟩ := hc
  obtain ⟨u, s2, p2⟩ := ha
  obtain ⟨w, s3, p3⟩ := hb
  refine ⟨fun W => tIf (t W) (u W) (w W), fun W b σ H F ρ Q E P => ?_, fun X W g c => pe_ifExp (p X W g c) (p2 X W g c) (p3 X W g c)⟩
  refine s W b σ H F ρ _ E (P.bind (pa := pu) id fun d ρ1 x F1 H1 s1 k1 E1 r1 P1 => ?_)
  cases (show x = d from r1)
  try dsimp only at P1 ⊢
  have P2 := Sem.later (R := VRg m) (fun h k => VRg.back h k) (fun c h => s1.lv c h) P1
  cases d with
  | true => rw [if_pos rfl] at P2 ⊢; exact s2 W b σ H1 F1 ρ1 _ E1 P2
  | false => rw [if_neg Bool.false_ne_true] at P2 ⊢; exact s3 W b σ H1 F1 ρ1 _ E1 P2
/-! ### a <= b <= c -/
def dChain (g g' : D → D → Option D) (fa fb fc : Env → Out D) : Env → Out D := fun ρ => (fa ρ).bind fun d ρ1 => (fb ρ1).bind fun e ρ2 => match g d e with
  | some (.bl true) => (fc ρ2).bind fun z ρ3 => lift (g' e z) ρ3
  | some (.bl false) => .ok (.bl false) ρ2
  | _ => .bad
theorem sem_chain {mg : Str → Option Value} {r r' : R2} {g g' : D → D → Option D} {xa xb xc : TE} (so : OpSem .fro r g) (so' : OpSem .fro r' g') (sa : Sem mg pu W (VRg .fro) xa fa) (sb : Sem mg pu W (VRg .fro) xb fb) (sc : Sem mg pu W (VRg .fro) xc fc) :
    Sem mg pu W (VRg .fro) (tChain r r' xa xb xc) (dChain g g' fa fb fc) := fun b σ H F ρ Q E P =>
  sa b σ H F ρ _ E (P.bind (pa := pu) id fun d ρ1 x F1 H1 s1 k1 E1 r1 P1 => sb b σ H1 F1 ρ1 _ E1 (P1.bind (pa := pu) id fun e ρ2 y F2 H2 s2 k2 E2 r2 P2 => by
    cases q : g d e with
    | none => rw [q] at P2; exact P2.elim
    | some z =>
      rw [q] at P2
      cases z with
      | bl k =>
        refine so F2 H2 x y d e _ _ E2.sub (Rep.top E2.sub (Rep.mono s2.f r1)) (Rep.top E2.sub r2) q fun v F' H' gr rv => ?_
        cases rv
        refine ⟨k, rfl, ?_⟩
        have E3 := E2.grow gr
        have gf : Grow F H F H := Grow.refl E.sub
        cases k with
        | true =>
          rw [if_pos rfl]
          dsimp only at P2
          have P3 : Post mg b pu F' H' σ ρ2 W (fun _ => VRg .fro H) Q ((fc ρ2).bind fun z ρ3 => lift (g' e z) ρ3) := by
            revert P2
            cases (fc ρ2).bind fun z ρ3 => lift (g' e z) ρ3 with
            | ok z ρ3 => exact fun P2 v F3 H3 s3 k3 E4 r3 => P2 v F3 H3 ((Stp.grow gr).trans s3) (fun hp => gr.h.trans (k3 hp)) E4 r3
            | err c ρ3 => exact fun P2 cls F3 H3 hm hf E4 => P2 cls F3 H3 hm (gr.f.trans hf) E4
            | bad => exact fun P2 => P2
          refine sc b σ H' F' ρ2 _ E3 (P3.bind (pa := pu) id fun z ρ3 w F3 H3 s3 k3 E4 r3 P4 => ?_)
          unfold lift at P4
          cases q' : g' e z with
          | none => rw [q'] at P4; exact P4.elim
          | some o =>
            rw [q'] at P4
            exact so' F3 H3 y w e z o Q E4.sub (Rep.top E4.sub (Rep.mono s3.f (Rep.mono gr.f r2))) (Rep.top E4.sub r3) q' fun v F5 H5 gr5 rv5 => Post.done (R := fun _ => VRg .fro H) P4 E4 gr5 rv5
        | false =>
          rw [if_neg Bool.false_ne_true]
          exact Post.done (R := fun _ => VRg .fro H) P2 E2 gr (.bl _)
      | _ => exact P2.elim))
theorem je_chain {o1 o2 : CmpOp} {g g' : D → D → Option D} (h1 : CmpR Γ o1 g) (h2 : CmpR Γ o2 g') (ha : JE Γ .fro pu a fa) (hb : JE Γ .fro pu e fb) (hc : JE Γ .fro pu c fc) (hm : lastMarks [o1, o2] [e, c] = false) :
    JE Γ .fro pu (.Compare a [o1, o2] [e, c] pos) (dChain g g' fa fb fc) := by
  obtain ⟨r, ho, so⟩ := h1.ex
  obtain ⟨r', ho', so'⟩ := h2.ex
  obtain ⟨x, sa, pa⟩ := ha
  obtain ⟨y, sb, pb⟩ := hb
  obtain ⟨z, sc, pc⟩ := hc
  exact ⟨fun W => tChain r r' (x W) (y W) (z W), fun W => sem_chain so so' (sa W) (sb W) (sc W), fun X W h c => pe_chain (ho X h) (ho' X h) (pa X W h c) (pb X W h c) (pc X W h c) hm⟩
theorem jt_chain {o1 o2 : CmpOp} {g g' : D → D → Option D} (h1 : CmpR Γ o1 g) (h2 : CmpR Γ o2 g') (ha : JE Γ .fro pu a fa) (hb : JE Γ .fro pu e fb) (hc : JE Γ .fro pu c fc) (hm : lastMarks [o1, o2] [e, c] = false) :
    JT Γ pu (.Compare a [o1, o2] [e, c] pos) (dTest (dChain g g' fa fb fc)) := by
  obtain ⟨r, ho, so⟩ := h1.ex
  obtain ⟨r', ho', so'⟩ := h2.ex
  obtain ⟨x, sa, pa⟩ := ha
  obtain ⟨y, sb, pb⟩ := hb
  obtain ⟨z, sc, pc⟩ := hc
  exact ⟨fun W => tTest (tChain r r' (x W) (y W) (z W)), fun W => sem_test (sem_chain so so' (sa W) (sb W) (sc W)) (by decide), fun X W h c => pt_chain (ho X h) (ho' X h) (pa X W h c) (pb X W h c) (pc X W h c) hm⟩
end
end PD
namespace PD
open PySem PySem.Spec L2

section
variable {Γ : Gam} {m ma : Md} {pu pb : Bool} {W : WX} {pos : Pos} {a e : Expr} {fa fb : Env → Out D} {es : List Expr} {f fr : Env → Out (List D)} {x : Str} {p : Pos}
/-! ### x[i] -/
def ixD : D → D → Option D
  | .lst l, .int i => atI l i
  | .tup l, .int i => atI l i
  | .str z, .int i => if z.length ≤ sizeLine then (atI z.cps.toList i).map fun c => .str ⟨#[c]⟩ else none
  | .dct _ l, k => match k.key with
    | some kk => dget l kk
    | none => none
  | _, _ => none
theorem RepL.atI {F : Hp} {vs : List V} {ds : List D} {i : Int} {d : D} (r : RepL F vs ds) (h : atI ds i = some d) : ∃ v, L2.atI vs i = some v ∧ Rep F v d := by
  unfold L2.atI at h ⊢
  rw [r.length]
  cases q : ixN ds.length i with
  | none => rw [q] at h; cases h
  | some j =>
    rw [q] at h
    obtain ⟨v, h1, h2⟩ := r.get (i := j) h
    exact ⟨v, h1, h2⟩
def rIxD (K : PySem.W.Frag) : R2 := fun x y H Q => rIx K x y H Q ∨ ∃ a v, x = .ref a ∧ DGet H a y (some v) ∧ Q v H
theorem ix_dict {X : Cx} (hu : X.A.units + 1 < cLine) : IxR X (fun x y H Q => ∃ a v, x = .ref a ∧ DGet H a y (some v) ∧ Q v H) := by
  intro value slice pins s σ H x y v u Q I rx ry h hs
  obtain ⟨a, w, rfl, g, q⟩ := h
  obtain rfl : v = Value.ref a := rx
  exact PyProof.Rows.tail_any (dict_typeIs I g) PySem.F.slot_dict_getitem.lookup (d_getItem hu I g ry fun w' s' I' r' => ⟨w, H, I', r', q⟩) hs
theorem so_ix {K : PySem.W.Frag} : OpSem .fro (rIxD K) ixD := by
  intro F H x y d e c Q k hx hy hg q
  cases hx with
  | lst e1 h1 r1 =>
    cases hy <;> first | (cases hg; done) | skip
    obtain ⟨v, h2, h3⟩ := r1.atI hg
    exact .inl (.inl ⟨_, _, _, _, rfl, rfl, SqL.of e1, h2, q _ F H (Grow.refl k) h3⟩)
  | tup e1 h1 r1 =>
    cases hy <;> first | (cases hg; done) | skip
    obtain ⟨v, h2, h3⟩ := r1.atI hg
    exact .inl (.inr (.inl ⟨_, _, _, _, rfl, rfl, SqT.of (k _ _ e1), h2, q _ F H (Grow.refl k) h3⟩))
  | str z =>
    cases hy <;> first | (cases hg; done) | skip
    unfold ixD at hg
    dsimp only at hg
    split at hg
    · rename_i hl
      cases q1 : L2.atI z.cps.toList _ with
      | none => rw [q1] at hg; cases hg
      | some ch =>
        rw [q1] at hg
        cases hg
        exact .inl (.inr (.inr ⟨_, _, _, rfl, rfl, hl, q1, q _ F H (Grow.refl k) (.str _)⟩))
    · cases hg
  | dctK e1 h1 n1 r1 =>
    unfold ixD at hg
    dsimp only at hg
    split at hg
    · rename_i kk hk
      obtain ⟨a, v, ea, g, rv⟩ := dget_of k (.dctK e1 h1 n1 r1) hy hk hg
      exact .inr ⟨a, v, ea, g, q _ F H (Grow.refl k) rv⟩
    · cases hg
  | dctT e1 h1 n1 r1 =>
    unfold ixD at hg
    dsimp only at hg
    split at hg
    · rename_i kk hk
      obtain ⟨a, v, ea, g, rv⟩ := dget_of k (.dctT e1 h1 n1 r1) hy hk hg
      exact .inr ⟨a, v, ea, g, q _ F H (Grow.refl k) rv⟩
    · cases hg
  | _ => cases hg
theorem je_ix (ha : JE Γ ma pu a fa) (hb : JE Γ .top pb e fb) (hs : PlainIx e) (hk : (ma = .fro ∨ pb = true) ∧ ma ≠ .own ∧ (pu = true → pb = true) := by decide) : JE Γ .fro pu (.Subscript a e pos) (dOp ixD fa fb) := by
  obtain ⟨ta, sa, pa⟩ := ha
  obtain ⟨tb, sb, pb'⟩ := hb
  exact ⟨fun W => tOp (rIxD Γ.K) (ta W) (tb W), fun W => sem_op hk so_ix (sa W) (sb W), fun X W h c => pe_ix (by rw [← h.K]; exact ix_seq.or (ix_dict (by have := h.hu; omega))) (pa X W h c) (pb' X W h c) hs⟩
/-! ### x[a:b], x[::-1] -/
def JO (Γ : Gam) (pu : Bool) (e : Option Expr) (f : Env → Out (Option Int)) : Prop :=
  ∃ te : WX → TO, (∀ W, Sem Γ.mg pu W (fun _ _ _ (v : Option Int) d => v = d) (te W) f) ∧ ∀ X W, Γ.Has X → Cond X W → PO X e (te W)
def dNoPart : Env → Out (Option Int) := fun ρ => .ok none ρ
def dPart (fa : Env → Out D) : Env → Out (Option Int) := fun ρ => (fa ρ).bind fun d ρ1 => match d with | .int i => .ok (some i) ρ1 | _ => .bad
theorem jo_none : JO Γ pu none dNoPart := ⟨fun _ => tNoPart, fun W b σ H F ρ Q E P => Post.done (R := fun _ _ _ (v : Option Int) d => v = d) P E (Grow.refl E.sub) rfl, fun X W h c => po_none⟩
theorem jo_some (ha : JE Γ m pu a fa) : JO Γ pu (some a) (dPart fa) := by
  obtain ⟨ta, sa, pa⟩ := ha
  refine ⟨fun W => tPart (ta W), fun W b σ H F ρ Q E P => ?_, fun X W h c => po_some (pa X W h c)⟩
  refine sa W b σ H F ρ _ E (P.bind (pa := pu) id fun d ρ1 x F1 H1 s1 k1 E1 r1 P1 => ?_)
  have t := r1.top E1.sub
  cases t with
  | int i => exact ⟨i, rfl, Post.done (R := fun _ _ _ (v : Option Int) d => v = d) P1 E1 (Grow.refl E1.sub) rfl⟩
  | _ => exact (P1 : False).elim
def cutL {α : Type} (xs : List α) (lo hi : Option Int) : List α := (xs.drop (HT.sIx xs.length 0 lo)).take (HT.sIx xs.length xs.length hi - HT.sIx xs.length 0 lo)
theorem RepL.cut {F : Hp} {vs : List V} {ds : List D} (r : RepL F vs ds) (lo hi : Option Int) : RepL F (cutV vs lo hi) (cutL ds lo hi) := by
  unfold cutV cutL
  rw [r.length]
  exact (r.drop _).take _
def slD (lo hi : Option Int) : D → Option D
  | .lst l => some (.lst (cutL l lo hi))
  | .tup l => some (.tup (cutL l lo hi))
  | .str z => if z.length ≤ sizeLine then some (.str (cutS z lo hi)) else none
  | _ => none
def slL (lo hi : Option Int) : D → Option D
  | .lst l => some (.lst (cutL l lo hi))
  | _ => none
def dSl (g : Option Int → Option Int → D → Option D) (fa : Env → Out D) (fl fh : Env → Out (Option Int)) : Env → Out D := fun ρ => (fa ρ).bind fun d ρ1 => (fl ρ1).bind fun lo ρ2 => (fh ρ2).bind fun hi ρ3 => lift (g lo hi d) ρ3
def SlSem (m : Md) (r : V → Option Int → Option Int → Hp → VK → Prop) (g : Option Int → Option Int → D → Option D) : Prop :=
  ∀ F H x lo hi d c Q, Same F H → Top F H x d → g lo hi d = some c → (∀ v F' H', Grow F H F' H' → VRg m H F' H' v c → Q v H') → r x lo hi H Q
theorem je_slG {r : V → Option Int → Option Int → Hp → VK → Prop} {g : Option Int → Option Int → D → Option D} (hr : ∀ X, Γ.Has X → SlR X r) (so : SlSem m r g) {lo hi : Option Expr} {fl fh : Env → Out (Option Int)} {p2 : Pos} (ha : JE Γ ma pu a fa) (hl : JO Γ pb lo fl) (hh : JO Γ pb hi fh)
    (hk : (ma = .fro ∨ pb = true) ∧ ma ≠ .own ∧ (pu = true → pb = true) := by decide) : JE Γ m pu (.Subscript a (.Slice lo hi none p2) pos) (dSl g fa fl fh) := by
  obtain ⟨ta, sa, pa⟩ := ha
  obtain ⟨tl, sl, pl⟩ := hl
  obtain ⟨th, sh, ph⟩ := hh
  refine ⟨fun W => tSl r (ta W) (tl W) (th W), fun W b σ H F ρ Q E P => ?_, fun X W h c => pe_slice (hr X h) (pa X W h c) (pl X W h c) (ph X W h c)⟩
  refine sa W b σ H F ρ _ E (P.bind (pa := pu) id fun d ρ1 x F1 H1 s1 k1 E1 r1 P1 => ?_)
  refine sl W b σ H1 F1 ρ1 _ E1 (P1.bind (pa := pb) hk.2.2 fun l ρ2 l' F2 H2 s2 k2 E2 r2 P2 => ?_)
  cases (show l' = l from r2)
  refine sh W b σ H2 F2 ρ2 _ E2 (P2.bind (pa := pb) hk.2.2 fun u ρ3 u' F3 H3 s3 k3 E3 r3 P3 => ?_)
  cases (show u' = u from r3)
  unfold lift at P3
  cases q : g l u d with
  | none => rw [q] at P3; exact P3.elim
  | some c =>
    rw [q] at P3
    have r1' := VRg.stay E1 hk.2.1 r1 s2 (hk.1.imp id k2)
    have rx : Top F3 H3 x d := (VRg.stay E2 hk.2.1 r1' s3 (hk.1.imp id k3)).top E3.sub
    refine so F3 H3 x l u d c Q E3.sub rx q fun v F' H' gr rv => ?_
    exact Post.done (R := fun _ => VRg m H) P3 E3 gr (rv.back fun c h => s3.lv c (s2.lv c (s1.lv c h)))
def rSlD (K : PySem.W.Frag) : V → Option Int → Option Int → Hp → VK → Prop := fun x lo hi H Q => rSlL K x lo hi H Q ∨ (rSlA K x lo hi H Q ∨ rSlS x lo hi H Q)
theorem so_sl {K : PySem.W.Frag} : SlSem .fro (rSlD K) slD := by
  intro F H x lo hi d c Q k hx hg q
  cases hx with
  | @lst p vs ds e1 h1 r1 =>
    cases hg
    refine .inl ⟨p, vs, rfl, SqL.of e1, fun z hz => ?_⟩
    have g : Grow F H (upd F z (.lst (cutV vs lo hi))) (upd H z (.lst (cutV vs lo hi))) := Grow.alloc k hz
    exact q _ _ _ g (.lst upd_same (Nat.le_trans (cutV_length _ _ _) h1) ((r1.mono g.f).cut lo hi))
  | @tup p vs ds e1 h1 r1 =>
    cases hg
    refine .inr (.inl ⟨p, vs, rfl, SqT.of (k _ _ e1), fun hw => ?_, fun hw z hz => ?_⟩)
    · refine q _ F H (Grow.refl k) ?_
      have : cutL ds lo hi = ds := by
        unfold cutL
        rw [← r1.length, hw.1, hw.2, List.drop_zero, Nat.sub_zero]
        exact List.take_of_length_le (by rw [r1.length]; exact Nat.le_refl _)
      rw [this]
      exact .tup e1 h1 r1
    · have g : Grow F H (upd F z (.tup (cutV vs lo hi))) (upd H z (.tup (cutV vs lo hi))) := Grow.alloc k hz
      exact q _ _ _ g (.tup upd_same (Nat.le_trans (cutV_length _ _ _) h1) ((r1.mono g.f).cut lo hi))
  | str z =>
    unfold slD at hg
    dsimp only at hg
    split at hg
    · rename_i hl
      cases hg
      exact .inr (.inr ⟨z, rfl, hl, q _ F H (Grow.refl k) (.str _)⟩)
    · cases hg
  | _ => cases hg
theorem so_slL {K : PySem.W.Frag} : SlSem .own (rSlL K) slL := by
  intro F H x lo hi d c Q k hx hg q
  cases hx with
  | @lst p vs ds e1 h1 r1 =>
    cases hg
    refine ⟨p, vs, rfl, SqL.of e1, fun z hz => ?_⟩
    exact q _ _ _ (Grow.allocH k hz) ⟨z, rfl, hz, k.free hz, .lst upd_same (Nat.le_trans (cutV_length _ _ _) h1) (r1.cut lo hi)⟩
  | _ => cases hg
theorem je_sl {lo hi : Option Expr} {fl fh : Env → Out (Option Int)} {p2 : Pos} (ha : JE Γ ma pu a fa) (hl : JO Γ pb lo fl) (hh : JO Γ pb hi fh) (hk : (ma = .fro ∨ pb = true) ∧ ma ≠ .own ∧ (pu = true → pb = true) := by decide) :
    JE Γ .fro pu (.Subscript a (.Slice lo hi none p2) pos) (dSl slD fa fl fh) := je_slG (r := rSlD Γ.K) (fun X h => by rw [← h.K]; exact sl_list.or (sl_tupA.or sl_str)) so_sl ha hl hh hk
theorem je_slO {lo hi : Option Expr} {fl fh : Env → Out (Option Int)} {p2 : Pos} (ha : JE Γ ma pu a fa) (hl : JO Γ pb lo fl) (hh : JO Γ pb hi fh) (hk : (ma = .fro ∨ pb = true) ∧ ma ≠ .own ∧ (pu = true → pb = true) := by decide) :
    JE Γ .own pu (.Subscript a (.Slice lo hi none p2) pos) (dSl slL fa fl fh) := je_slG (r := rSlL Γ.K) (fun X h => by rw [← h.K]; exact sl_list) so_slL ha hl hh hk
def revD : D → Option D
  | .lst l => some (.lst l.reverse)
  | _ => none
theorem je_rev {k : Nat} {p1 p2 p3 : Pos} (ha : JE Γ ma pu a fa) : JE Γ .own pu (.Subscript a (.Slice none none (some (.UnaryOp .USub (.Constant (.int 1) k p1) p2)) p3) pos) (dUn revD fa) := by
  obtain ⟨ta, sa, pa⟩ := ha
  refine ⟨fun W => tRevL Γ.K (ta W), fun W b σ H F ρ Q E P => ?_, fun X W h c => by have q := pe_revL (k := k) (p1 := p1) (p2 := p2) (p3 := p3) (pos := pos) (pa X W h c); rw [h.K] at q; exact q⟩
  refine sa W b σ H F ρ _ E (P.bind (pa := pu) id fun d ρ1 x F1 H1 s1 k1 E1 r1 P1 => ?_)
  have t := r1.top E1.sub
  cases t with
  | @lst p vs ds e1 h1 r =>
    refine ⟨p, vs, rfl, SqL.of e1, fun z hz => ?_⟩
    refine Post.done (R := fun _ => VRg .own H) P1 E1 (Grow.allocH E1.sub hz) ⟨z, rfl, ?_, E1.sub.free hz, .lst upd_same (by rw [List.length_reverse]; exact h1) r.reverse⟩
    cases q : H z with
    | none => rfl
    | some o => exact absurd hz (s1.lv z (by rw [q]; simp))
  | _ => exact (P1 : False).elim
/-! ### arguments, displays -/
def dNil : Env → Out (List D) := fun ρ => .ok [] ρ
def dCons (fa : Env → Out D) (fr : Env → Out (List D)) : Env → Out (List D) := fun ρ => (fa ρ).bind fun d ρ1 => (fr ρ1).bind fun ds ρ2 => .ok (d :: ds) ρ2
theorem ja_nil : JA Γ m pu [] dNil := ⟨fun _ => tNil, fun W b σ H F ρ Q E P => Post.done (R := VRgL m) P E (Grow.refl E.sub) .nil, fun X W h c => pa_nil⟩
theorem VRgL.back {m : Md} {Hs Hs' F H : Hp} : ∀ {v : List V} {d : List D}, VRgL m Hs' F H v d → (∀ c, Hs c ≠ none → Hs' c ≠ none) → VRgL m Hs F H v d
  | _, _, .nil, _ => .nil
  | _, _, .cons a r, k => .cons (VRg.back a k) (VRgL.back r k)
theorem VRgL.rep {Hs F H : Hp} : ∀ {v : List V} {d : List D}, VRgL .fro Hs F H v d → RepL F v d
  | _, _, .nil => .nil
  | _, _, .cons a r => .cons a (VRgL.rep r)
theorem ja_cons (ha : JE Γ m pu e fa) (hr : JA Γ m pb es fr) (hs : ∀ env, starEach (e :: es) env = (false, eval e env) :: starEach es env) (hk : (m = .fro ∨ pb = true) ∧ m ≠ .own ∧ (pu = true → pb = true) := by decide) : JA Γ m pu (e :: es) (dCons fa fr) := by
  obtain ⟨ta, sa, pa⟩ := ha
  obtain ⟨tr, sr, pr⟩ := hr
  refine ⟨fun W => tCons (ta W) (tr W), fun W b σ H F ρ Q E P => ?_, fun X W h c => pa_cons (pa X W h c) (pr X W h c) (hs _)⟩
  refine sa W b σ H F ρ _ E (P.bind (pa := pu) id fun d ρ1 x F1 H1 s1 k1 E1 r1 P1 => ?_)
  refine sr W b σ H1 F1 ρ1 _ E1 (P1.bind (pa := pb) hk.2.2 fun ds ρ2 xs F2 H2 s2 k2 E2 r2 P2 => ?_)
  have r1' := VRg.stay E1 hk.2.1 r1 s2 (hk.1.imp id k2)
  exact Post.done (R := fun _ => VRgL m H) P2 E2 (Grow.refl E2.sub) (.cons r1' (r2.back fun c h => s1.lv c h))
def dLst (f : Env → Out (List D)) : Env → Out D := fun ρ => (f ρ).bind fun ds ρ1 => if ds.length ≤ sizeLine then .ok (.lst ds) ρ1 else .bad
def dTup (f : Env → Out (List D)) : Env → Out D := fun ρ => (f ρ).bind fun ds ρ1 => if ds.length ≤ sizeLine then .ok (.tup ds) ρ1 else .bad
theorem je_lst (h : JA Γ .fro pu es f) : JE Γ .own pu (.List es pos) (dLst f) := by
  obtain ⟨ta, sa, pa⟩ := h
  refine ⟨fun W => tLst (ta W), fun W b σ H F ρ Q E P => ?_, fun X W h c => pe_lst (pa X W h c)⟩
  refine sa W b σ H F ρ _ E (P.bind (pa := pu) id fun ds ρ1 xs F1 H1 s1 k1 E1 r1 P1 => ?_)
  have r := r1.rep
  split at P1
  · rename_i hl
    refine ⟨by rw [r.length]; exact hl, fun z hz => ?_⟩
    refine Post.done (R := fun _ => VRg .own H) P1 E1 (Grow.allocH E1.sub hz) ⟨z, rfl, ?_, E1.sub.free hz, .lst upd_same (by rw [r.length]; exact hl) r⟩
    cases q : H z with
    | none => rfl
    | some o => exact absurd hz (s1.lv z (by rw [q]; simp))
  · exact P1.elim
theorem je_tup {x1} (h : JA Γ .fro pu es f) : JE Γ .fro pu (.Tuple es x1 pos) (dTup f) := by
  obtain ⟨ta, sa, pa⟩ := h
  refine ⟨fun W => tTup (ta W), fun W b σ H F ρ Q E P => ?_, fun X W h c => pe_tup (pa X W h c)⟩
  refine sa W b σ H F ρ _ E (P.bind (pa := pu) id fun ds ρ1 xs F1 H1 s1 k1 E1 r1 P1 => ?_)
  have r := r1.rep
  split at P1
  · rename_i hl
    refine ⟨by rw [r.length]; exact hl, fun z hz => ?_⟩
    have g : Grow F1 H1 (upd F1 z (.tup xs)) (upd H1 z (.tup xs)) := Grow.alloc E1.sub hz
    exact Post.done (R := fun _ => VRg .fro H) P1 E1 g (.tup upd_same (by rw [r.length]; exact hl) (r.mono g.f))
  · exact P1.elim
/-! ### calls of built-ins -/
inductive TopL (F H : Hp) : List V → List D → Prop
  | nil : TopL F H [] []
  | cons {v : V} {d : D} {vs : List V} {ds : List D} : Top F H v d → TopL F H vs ds → TopL F H (v :: vs) (d :: ds)
theorem VRgL.tops {Hs F H : Hp} (k : Same F H) : ∀ {v : List V} {d : List D}, VRgL m Hs F H v d → TopL F H v d
  | _, _, .nil => .nil
  | _, _, .cons a r => .cons (VRg.top k a) (VRgL.tops k r)
def CallSem (m : Md) (r : List V → Hp → VK → Prop) (g : List D → Option D) : Prop :=
  ∀ F H xs ds c Q, Same F H → TopL F H xs ds → g ds = some c → (∀ v F' H', Grow F H F' H' → VRg m H F' H' v c → Q v H') → r xs H Q
def dCB (g : List D → Option D) (f : Env → Out (List D)) : Env → Out D := fun ρ => (f ρ).bind fun ds ρ1 => lift (g ds) ρ1
theorem sem_cb {mg : Str → Option Value} {r : List V → Hp → VK → Prop} {g : List D → Option D} {ta : TA} (so : CallSem m r g) (sa : Sem mg pu W (VRgL ma) ta f) : Sem mg pu W (VRg m) (tCB r ta) (dCB g f) := fun b σ H F ρ Q E P =>
  sa b σ H F ρ _ E (P.bind (pa := pu) id fun ds ρ1 xs F1 H1 s1 k1 E1 r1 P1 => by
    unfold lift at P1
    cases q : g ds with
    | none => rw [q] at P1; exact P1.elim
    | some c =>
      rw [q] at P1
      exact so F1 H1 xs ds c Q E1.sub (r1.tops E1.sub) q fun v F' H' gr rv => Post.done (R := fun _ => VRg m H) P1 E1 gr (rv.back fun c h => s1.lv c h))
structure BnR (Γ : Gam) (x : Str) (fn : Value) (m : Md) (g : List D → Option D) : Prop where
  ex : ∃ r, (∀ X, Γ.Has X → CallR X fn r) ∧ CallSem m r g
theorem je_cb {id : String} {g : List D → Option D} (hc : BnR Γ x (.builtin id) m g) (hg : Γ.sc.names.lookup x = some .globalImplicit) (hm : Γ.mg x = none) (hv : bootBuiltins x = some (.builtin id)) (ha : JA Γ ma pu (e :: es) f) (hn : x ≠ "__name__") (hdb : (x == ("__debug__" : Str)) = false)
    (he : ∀ env, starEach (e :: es) env = (false, eval e env) :: starEach es env) (hpl : ∀ env, (backTo pos (starEach es env)).any (·.1) = false) : JE Γ m pu (.Call (.Name x p) (e :: es) [] pos) (dCB g f) := by
  obtain ⟨r, hr, so⟩ := hc.ex
  obtain ⟨ta, sa, pa⟩ := ha
  exact ⟨fun W => tCB r (ta W), fun W => sem_cb so (sa W), fun X W h c => pe_callB (hr X h) (show X.env.scope.names.lookup x = some .globalImplicit by rw [h.sc]; exact hg) (by rw [h.mg]; exact hm) hv (pa X W h c) hn hdb (he _) (hpl _)⟩
theorem je_ct {T : String} {g : List D → Option D} (hc : BnR Γ x (.type T) m g) (hg : Γ.sc.names.lookup x = some .globalImplicit) (hm : Γ.mg x = none) (hv : bootBuiltins x = some (.type T)) (ha : JA Γ ma pu (e :: es) f) (hn : x ≠ "__name__") (hdb : (x == ("__debug__" : Str)) = false)
    (he : ∀ env, starEach (e :: es) env = (false, eval e env) :: starEach es env) (hpl : ∀ env, (backTo pos (starEach es env)).any (·.1) = false) : JE Γ m pu (.Call (.Name x p) (e :: es) [] pos) (dCB g f) := by
  obtain ⟨r, hr, so⟩ := hc.ex
  obtain ⟨ta, sa, pa⟩ := ha
  exact ⟨fun W => tCB r (ta W), fun W => sem_cb so (sa W), fun X W h c => pe_callTy (hr X h) (show X.env.scope.names.lookup x = some .globalImplicit by rw [h.sc]; exact hg) (by rw [h.mg]; exact hm) hv (pa X W h c) hn hdb (he _) (hpl _)⟩
end
end PD
namespace PD
open PySem PySem.Spec L2

/-! ### built-ins by values -/
def lenD : List D → Option D
  | [.lst l] => some (.int l.length)
  | [.tup l] => some (.int l.length)
  | [.str s] => if s.length ≤ sizeLine then some (.int s.length) else none
  | _ => none
def absD : List D → Option D
  | [.int i] => some (.int (if i < 0 then -i else i))
  | _ => none
def intD : List D → Option D
  | [.int i] => some (.int i)
  | [.bl b] => some (.int (if b then 1 else 0))
  | _ => none
def strD : List D → Option D
  | [.int i] => if i.natAbs.log2 < 1920 then some (.str (toString i)) else none
  | _ => none
def listD : List D → Option D
  | [.lst l] => some (.lst l)
  | [.tup l] => some (.lst l)
  | _ => none
def tupleD : List D → Option D
  | [.lst l] => some (.tup l)
  | [.tup l] => some (.tup l)
  | _ => none
def D.asInt : D → Option Int
  | .int i => some i
  | _ => none
def asInts : List D → Option (List Int)
  | [] => some []
  | d :: l => match d.asInt, asInts l with
    | some i, some r => some (i :: r)
    | _, _ => none
def sumD : List D → Option D
  | [.lst l] => (asInts l).map fun ns => .int ns.sum
  | _ => none
/-- isinstance of a built-in type -/
def D.tyName : D → String
  | .non => "NoneType" | .bl _ => "bool" | .int _ => "int" | .str _ => "str" | .lst _ => "list" | .tup _ => "tuple" | .dct _ _ => "dict" | .ty _ => "type"
def isiB (d : D) (n : String) : Option Bool :=
  match d with
  | .ty _ => none
  | _ => if n = "bool" ∨ n = "str" ∨ n = "list" ∨ n = "tuple" then some (decide (d.tyName = n)) else if n = "int" then some (decide (d.tyName = "int") || decide (d.tyName = "bool")) else none
def isiD : List D → Option D
  | [d, .ty n] => (isiB d n).map .bl
  | _ => none
/-! sorted: of data that can be compared place by place -/
def allAlike (l : List D) : Bool := l.all fun d => l.all fun e => PySem.W.alike (pyD d) (pyD e)
def D.ne : D → Bool
  | .tup (_ :: _) => true
  | _ => false
def D.nt : D → Bool
  | .tup _ | .non => false
  | _ => true
def canSort (l : List D) : Bool := (allAlike l && l.all okD) && (l.all D.ne || l.all D.nt)
def sortL (l : List D) : List D := l.mergeSort (PySem.W.dataLe false pyD)
def sortedD : List D → Option D
  | [.lst l] => if canSort l = true then some (.lst (sortL l)) else none
  | _ => none
/-- min, max of a list, of several -/
def minL (x : D) : List D → D
  | [] => x
  | y :: r => minL (if PySem.W.dataLt (pyD y) (pyD x) then y else x) r
def pairsD : List D → Option (List (Key × D))
  | [] => some []
  | .tup [k, v] :: l => match k.key1, pairsD l with
    | some k, some r => some ((k, v) :: r)
    | _, _ => none
  | _ => none
def mergeD : List (DK × D) → List (Key × D) → List (DK × D)
  | acc, [] => acc
  | acc, (k, v) :: r => mergeD (if (acc.any fun kv => decide (kv.1 = .inl k)) = true then acc.map (fun kv => if kv.1 = .inl k then (kv.1, v) else kv) else acc ++ [(.inl k, v)]) r
def dictD : List D → Option D
  | [.lst l] => (pairsD l).map fun ps => .dct false (mergeD [] ps)
  | _ => none

section
variable {Γ : Gam} {x : Str}
theorem top1 {F H : Hp} {xs : List V} {d : D} (h : TopL F H xs [d]) : ∃ v, xs = [v] ∧ Top F H v d := by
  cases h with
  | cons a r => cases r; exact ⟨_, rfl, a⟩
theorem top2 {F H : Hp} {xs : List V} {d e : D} (h : TopL F H xs [d, e]) : ∃ v u, xs = [v, u] ∧ Top F H v d ∧ Top F H u e := by
  cases h with
  | cons a r => cases r with | cons b r => cases r; exact ⟨_, _, rfl, a, b⟩
abbrev rLenD (K : PySem.W.Frag) : List V → Hp → VK → Prop := fun xs H Q => (∃ x n, xs = [x] ∧ LenV K x H n ∧ Q (.int n) H)
theorem b_len : BnR Γ "len" (.builtin "len") .fro lenD := by
  refine ⟨rLenD Γ.K, fun X h => by rw [← h.K]; exact call_len, fun F H xs ds c Q k t hg q => ?_⟩
  unfold lenD at hg
  split at hg
  · cases hg
    obtain ⟨v, rfl, a⟩ := top1 t
    cases a with
    | lst e1 h1 r1 => exact ⟨_, _, rfl, .inl ⟨_, SqL.of e1, rfl⟩, q _ F H (Grow.refl k) (by rw [r1.length]; exact .int _)⟩
  · cases hg
    obtain ⟨v, rfl, a⟩ := top1 t
    cases a with
    | tup e1 h1 r1 => exact ⟨_, _, rfl, .inr ⟨_, SqT.of (k _ _ e1), rfl⟩, q _ F H (Grow.refl k) (by rw [r1.length]; exact .int _)⟩
  · split at hg
    · rename_i hl
      cases hg
      obtain ⟨v, rfl, a⟩ := top1 t
      cases a
      exact ⟨_, _, rfl, ⟨hl, rfl⟩, q _ F H (Grow.refl k) (.int _)⟩
    · cases hg
  · cases hg
theorem b_abs : BnR Γ "abs" (.builtin "abs") .fro absD := by
  refine ⟨_, fun X h => call_abs, fun F H xs ds c Q k t hg q => ?_⟩
  unfold absD at hg
  split at hg
  · cases hg
    obtain ⟨v, rfl, a⟩ := top1 t
    cases a
    exact ⟨_, rfl, q _ F H (Grow.refl k) (.int _)⟩
  · cases hg
theorem b_int : BnR Γ "int" (.type "int") .fro intD := by
  refine ⟨_, fun X h => call_int1, fun F H xs ds c Q k t hg q => ?_⟩
  unfold intD at hg
  split at hg
  · cases hg
    obtain ⟨v, rfl, a⟩ := top1 t
    cases a
    exact .inl ⟨_, rfl, q _ F H (Grow.refl k) (.int _)⟩
  · cases hg
    obtain ⟨v, rfl, a⟩ := top1 t
    cases a
    exact .inr ⟨_, rfl, q _ F H (Grow.refl k) (.int _)⟩
  · cases hg
theorem b_str : BnR Γ "str" (.type "str") .fro strD := by
  refine ⟨_, fun X h => call_str_int, fun F H xs ds c Q k t hg q => ?_⟩
  unfold strD at hg
  split at hg
  · split at hg
    · rename_i hl
      cases hg
      obtain ⟨v, rfl, a⟩ := top1 t
      cases a
      exact ⟨_, rfl, hl, q _ F H (Grow.refl k) (.str _)⟩
    · cases hg
  · cases hg
theorem b_list : BnR Γ "list" (.type "list") .own listD := by
  refine ⟨fun xs H Q => ∃ p ys, xs = [.ref p] ∧ (SqL Γ.K H p ys ∨ SqT Γ.K H p ys) ∧ ∀ l, H l = none → Q (.ref l) (upd H l (.lst ys)), fun X h => by rw [← h.K]; exact call_list_of, fun F H xs ds c Q k t hg q => ?_⟩
  unfold listD at hg
  split at hg
  · cases hg
    obtain ⟨v, rfl, a⟩ := top1 t
    cases a with
    | lst e1 h1 r1 => exact ⟨_, _, rfl, .inl (SqL.of e1), fun z hz => q _ _ _ (Grow.allocH k hz) ⟨z, rfl, hz, k.free hz, .lst upd_same h1 r1⟩⟩
  · cases hg
    obtain ⟨v, rfl, a⟩ := top1 t
    cases a with
    | tup e1 h1 r1 => exact ⟨_, _, rfl, .inr (SqT.of (k _ _ e1)), fun z hz => q _ _ _ (Grow.allocH k hz) ⟨z, rfl, hz, k.free hz, .lst upd_same h1 r1⟩⟩
  · cases hg
theorem b_tuple : BnR Γ "tuple" (.type "tuple") .fro tupleD := by
  refine ⟨fun xs H Q => ∃ p ys, xs = [.ref p] ∧ ((SqL Γ.K H p ys ∧ ∀ l, H l = none → Q (.ref l) (upd H l (.tup ys))) ∨ (SqT Γ.K H p ys ∧ Q (.ref p) H)), fun X h => by rw [← h.K]; exact call_tuple_of, fun F H xs ds c Q k t hg q => ?_⟩
  unfold tupleD at hg
  split at hg
  · cases hg
    obtain ⟨v, rfl, a⟩ := top1 t
    cases a with
    | lst e1 h1 r1 => exact ⟨_, _, rfl, .inl ⟨SqL.of e1, fun z hz => q _ _ _ (Grow.alloc k hz) (.tup upd_same h1 (r1.mono (Grow.alloc k hz (o := .tup _)).f))⟩⟩
  · cases hg
    obtain ⟨v, rfl, a⟩ := top1 t
    cases a with
    | tup e1 h1 r1 => exact ⟨_, _, rfl, .inr ⟨SqT.of (k _ _ e1), q _ F H (Grow.refl k) (.tup e1 h1 r1)⟩⟩
  · cases hg
theorem asInts_of {F : Hp} : ∀ {vs : List V} {ds : List D} {ns : List Int}, RepL F vs ds → asInts ds = some ns → vs = ns.map V.int
  | _, _, _, .nil, e => by cases e; rfl
  | _, _, _, .cons (d := d) (ds := ds) a r, e => by
    unfold asInts at e
    cases q1 : d.asInt with
    | none => rw [q1] at e; cases e
    | some i =>
      cases q2 : asInts ds with
      | none => rw [q1, q2] at e; cases e
      | some rs =>
        rw [q1, q2] at e
        cases e
        rw [asInts_of r q2]
        cases a <;> first | (cases q1; rfl) | cases q1
theorem b_sum : BnR Γ "sum" (.builtin "sum") .fro sumD := by
  refine ⟨rSum Γ.K, fun X h => by rw [← h.K]; exact cr_sum h.calm, fun F H xs ds c Q k t hg q => ?_⟩
  unfold sumD at hg
  split at hg
  · rename_i l
    obtain ⟨v, rfl, a⟩ := top1 t
    cases a with
    | lst e1 h1 r1 =>
      cases q1 : asInts l with
      | none => rw [q1] at hg; cases hg
      | some ns =>
        rw [q1] at hg
        cases hg
        have := asInts_of r1 q1
        subst this
        exact ⟨_, ns, rfl, SqL.of e1, q _ F H (Grow.refl k) (.int _)⟩
  · cases hg
theorem tyX_of {K : PySem.W.Frag} {F H : Hp} (k : Same F H) {v : V} {d : D} (h : Top F H v d) (hn : ∀ n, d ≠ .ty n) : TyX K H v (.type d.tyName) := by
  cases h with
  | non => exact .base .non
  | bl b => exact .base (.bl b)
  | int i => exact .base (.int i)
  | str s => exact .base (.str s)
  | ty n => exact absurd rfl (hn n)
  | lst e _ _ => exact .base (.lst e)
  | tup e _ _ => exact .base (.tup (k _ _ e))
  | dctK e _ _ _ => exact .base (.dK e)
  | dctT e _ _ _ => exact .base (.dT e)
def tyNames : List String := ["NoneType", "bool", "int", "str", "list", "tuple", "dict"]
theorem kit4 : ∀ n ∈ ["bool", "str", "list", "tuple"], ∀ t ∈ tyNames, kitB t n = some (decide (t = n)) := by decide +kernel
theorem kitI : ∀ t ∈ tyNames, kitB t "int" = some (decide (t = "int") || decide (t = "bool")) := by decide +kernel
theorem ty_mem (d : D) (h : ∀ n, d ≠ .ty n) : d.tyName ∈ tyNames := by
  cases d <;> first | exact absurd rfl (h _) | (unfold tyNames D.tyName; simp)
theorem kit_isi (d : D) {n : String} {b : Bool} (h : isiB d n = some b) : kitB d.tyName n = some b := by
  unfold isiB at h
  split at h
  · cases h
  · rename_i q
    have hm : d.tyName ∈ tyNames := ty_mem d fun n z => q n z
    split at h
    · rename_i hn
      rw [← h]
      exact kit4 n (by rcases hn with rfl | rfl | rfl | rfl <;> simp) _ hm
    · split at h
      · rename_i hn
        subst hn
        rw [← h]
        exact kitI _ hm
      · cases h
theorem b_isi : BnR Γ "isinstance" (.builtin "isinstance") .fro isiD := by
  refine ⟨rIsi Γ.K, fun X h => by rw [← h.K]; exact call_isi, fun F H xs ds c Q k t hg q => ?_⟩
  unfold isiD at hg
  split at hg
  · rename_i d n
    obtain ⟨v, u, rfl, a, b⟩ := top2 t
    cases e : isiB d n with
    | none => rw [e] at hg; cases hg
    | some r =>
      rw [e] at hg
      cases hg
      cases b
      refine ⟨v, .ty n, _, _, r, rfl, .ty n, tyX_of k a (fun m z => ?_), kit_ty (kit_isi d e), q _ F H (Grow.refl k) (.bl _)⟩
      subst z
      cases e
  · cases hg
end
end PD
namespace PD
open PySem PySem.Spec L2

section
variable {X : Cx} {pins : List (Addr × Obj)} {σ : L2.St} {H F : Hp} {s : Shared}
def RVal (F : Hp) (v : Value) (d : D) : Prop := ∃ x, RelV x v ∧ Rep F x d
theorem each_of : ∀ {vs : List V} {us : List Value} {ds : List D}, Vals vs us → RepL F vs ds → PySem.W.EachIs (RVal F) us ds
  | _, _, _, .nil, .nil => .nil
  | _, _, _, .cons a r, .cons b q => .cons ⟨_, a, b⟩ (each_of r q)
theorem of_each : ∀ {us : List Value} {ds : List D}, PySem.W.EachIs (RVal F) us ds → ∃ vs, Vals vs us ∧ RepL F vs ds
  | _, _, .nil => ⟨[], .nil, .nil⟩
  | _, _, .cons ⟨x, a, b⟩ r => by
    obtain ⟨vs, h1, h2⟩ := of_each r
    exact ⟨x :: vs, .cons a h1, .cons b h2⟩
theorem each_reads (I : Inv X pins σ H s) (k : Same F H) : ∀ {vs : List V} {us : List Value} {ds : List D}, Vals vs us → RepL F vs ds → (∀ d ∈ ds, okD d = true) → PySem.W.EachIs (fun v d => ∃ as, Reads s.heap v (pyD d) as) us ds
  | _, _, _, .nil, .nil, _ => .nil
  | _, _, _, .cons a r, .cons b q, h => .cons (Dp.reads I _ _ _ (b.dp k (lay_of (h _ List.mem_cons_self))) a) (each_reads I k r q fun d hd => h d (List.mem_cons_of_mem _ hd))
def rSortD (K : PySem.W.Frag) : List V → Hp → VK → Prop := fun xs H Q => ∃ (a : Addr) (F : Hp) (vs : List V) (ds : List D), xs = [.ref a] ∧ Same F H ∧ SqL K H a vs ∧ RepL F vs ds ∧ canSort ds = true ∧
  ∀ ys p, RepL F ys (sortL ds) → ys.length ≤ sizeLine → H p = none → Q (.ref p) (upd H p (.lst ys))
theorem canSort_al {l : List D} (h : canSort l = true) : PySem.W.AllAlike (l.map pyD) ∧ PySem.W.Sortable (l.map pyD) ∧ ∀ d ∈ l, okD d = true := by
  unfold canSort allAlike at h
  simp only [Bool.and_eq_true, Bool.or_eq_true, List.all_eq_true] at h
  obtain ⟨⟨h1, h2⟩, h3⟩ := h
  refine ⟨fun d hd e he => ?_, ?_, h2⟩
  · obtain ⟨d', hd', rfl⟩ := List.mem_map.mp hd
    obtain ⟨e', he', rfl⟩ := List.mem_map.mp he
    exact h1 d' hd' e' he'
  · rcases h3 with h3 | h3
    · refine .inl fun d hd => ?_
      obtain ⟨d', hd', rfl⟩ := List.mem_map.mp hd
      have q := h3 d' hd'
      cases d' with
      | tup l =>
        cases l with
        | nil => cases q
        | cons x r => exact ⟨_, _, rfl⟩
      | _ => cases q
    · refine .inr fun d hd => ?_
      obtain ⟨d', hd', rfl⟩ := List.mem_map.mp hd
      have q := h3 d' hd'
      cases d' <;> first | (cases q; done) | exact ⟨(fun z => PyData.noConfusion z), (fun _ z => PyData.noConfusion z)⟩
theorem cr_sortedD (hu : X.A.units + 80 < cLine) : CallR X (.builtin "sorted") (rSortD X.K) := by
  intro pins s σ H xs us Q I r h
  obtain ⟨a, F, vs, ds, rfl, k, hs, rl, hc, q⟩ := h
  obtain ⟨its, rv, hl, hz⟩ := I.list hs
  obtain ⟨u, rfl, ru⟩ := vals1 r
  obtain rfl : u = Value.ref a := ru
  obtain ⟨h1, h2, h3⟩ := canSort_al hc
  have hlen : ds.length ≤ sizeLine := by rw [← rl.length]; exact hz
  refine PySem.W.sorted_data (R := RVal F) (enc := pyD) hl.isList (each_of rv rl) (each_reads I k rv rl h3) h1 h2 hlen (fun d hd => ?_) fun out hn he => ?_
  · have := SeqAt.depth_of_shaped (h3 d hd)
    omega
  · obtain ⟨ys, g1, g2⟩ := of_each he
    obtain ⟨ep, he'⟩ := PyProof.Rows.sortedAll_at s.heap its out.toArray
    have hy : ys.length ≤ sizeLine := by rw [g1.length, hn]; exact hlen
    exact ⟨.ref _, upd H (s.heap.objs.size + 1) (.lst ys), I.laid (t' := s.toks) (fun _ _ => PyProof.Rows.sortedAll_old) (Nat.le_succ _) ⟨hy, out, ep, g1, he'⟩, rfl, q ys _ g2 hy (I.hok.fresh (Nat.le_succ _))⟩
end
section
variable {Γ : Gam} {x : Str}
theorem b_sorted : BnR Γ "sorted" (.builtin "sorted") .own sortedD := by
  refine ⟨rSortD Γ.K, fun X h => by rw [← h.K]; exact cr_sortedD (by have := h.room.un; omega), fun F H xs ds c Q k t hg q => ?_⟩
  unfold sortedD at hg
  split at hg
  · split at hg
    · rename_i hc
      cases hg
      obtain ⟨v, rfl, a⟩ := top1 t
      cases a with
      | lst e1 h1 r1 =>
        exact ⟨_, F, _, _, rfl, k, SqL.of e1, r1, hc, fun ys p hy hl hp => q _ _ _ (Grow.allocH k hp) ⟨p, rfl, hp, k.free hp, .lst upd_same hl hy⟩⟩
    · cases hg
  · cases hg
/-! ### dict(pairs) -/
theorem key1_of {F : Hp} {v : V} {d : D} {k : Key} (h : Rep F v d) (e : d.key1 = some k) : v = kV k := by
  cases h <;> first | (cases e; rfl) | cases e
theorem pairs_rep {K : PySem.W.Frag} {F H : Hp} (k : Same F H) : ∀ {vs : List V} {ds : List D} {ps : List (Key × D)}, RepL F vs ds → pairsD ds = some ps →
    ∃ (as : List Addr) (kvs : List (Key × V)), vs = as.map V.ref ∧ Paired (fun p kv => SqT K H p [kV kv.1, kv.2]) as kvs ∧ Paired (fun (kv : Key × V) (kd : Key × D) => kv.1 = kd.1 ∧ Rep F kv.2 kd.2) kvs ps
  | _, [], _, .nil, e => by cases e; exact ⟨[], [], rfl, .nil, .nil⟩
  | _, d :: ds, _, .cons (v := v) (vs := vs) a r, e => by
    cases a with
    | @tup p us es e1 h1 r1 =>
      match es, us, r1, e with
      | [kd, vd], [kv, vv], .cons b1 (.cons b2 .nil), e =>
        unfold pairsD at e
        cases q1 : kd.key1 with
        | none => rw [q1] at e; cases e
        | some key =>
          cases q2 : pairsD ds with
          | none => rw [q1, q2] at e; cases e
          | some rs =>
            rw [q1, q2] at e
            cases e
            obtain ⟨as, kvs, g1, g2, g3⟩ := pairs_rep (K := K) k r q2
            refine ⟨p :: as, (key, vv) :: kvs, by rw [g1] <;> rfl, .cons ?_ g2, .cons ⟨rfl, b2⟩ g3⟩
            have := key1_of b1 q1
            subst this
            exact SqT.of (k _ _ e1)
      | [], _, _, e => cases e
      | [_], _, _, e => cases e
      | _ :: _ :: _ :: _, _, _, e => cases e
    | _ => cases e
theorem repK_put {F : Hp} {k : Key} {v : V} {d : D} (hv : Rep F v d) : ∀ {ks : List (Key × V)} {ds : List (DK × D)}, RepK F ks ds →
    RepK F (putK ks k v) (if (ds.any fun kv => decide (kv.1 = .inl k)) = true then ds.map (fun kv => if kv.1 = .inl k then (kv.1, d) else kv) else ds ++ [(.inl k, d)]) := by
  have h1 : ∀ {ks : List (Key × V)} {ds : List (DK × D)}, RepK F ks ds → (ks.any fun kv => decide (kv.1 = k)) = (ds.any fun kv => decide (kv.1 = .inl k)) := by
    intro ks ds r
    induction ks generalizing ds with
    | nil => cases r; rfl
    | cons p ks ih =>
      cases r with
      | @cons k0 v0 d0 _ ds' a r =>
        rw [List.any_cons, List.any_cons, ih r]
        by_cases e : k0 = k
        · subst e; simp
        · have e2 : ¬ (Sum.inl k0 : DK) = .inl k := fun z => e (Sum.inl.inj z)
          simp [e]
  have h2 : ∀ {ks : List (Key × V)} {ds : List (DK × D)}, RepK F ks ds → RepK F (ks.map fun kv => if kv.1 = k then (kv.1, v) else kv) (ds.map fun kv => if kv.1 = .inl k then (kv.1, d) else kv) := by
    intro ks ds r
    induction ks generalizing ds with
    | nil => cases r; exact .nil
    | cons p ks ih =>
      cases r with
      | @cons k0 v0 d0 _ ds' a r =>
        rw [List.map_cons, List.map_cons]
        by_cases e : k0 = k
        · subst e
          simp only [if_true]
          exact .cons hv (ih r)
        · have e2 : ¬ (Sum.inl k0 : DK) = .inl k := fun z => e (Sum.inl.inj z)
          rw [if_neg e, if_neg e2]
          exact .cons a (ih r)
  have h3 : ∀ {ks : List (Key × V)} {ds : List (DK × D)}, RepK F ks ds → RepK F (ks ++ [(k, v)]) (ds ++ [(.inl k, d)]) := by
    intro ks ds r
    induction ks generalizing ds with
    | nil => cases r; exact .cons hv .nil
    | cons p ks ih =>
      cases r with
      | cons a r => exact .cons a (ih r)
  intro ks ds r
  unfold putK
  rw [h1 r]
  split
  · exact h2 r
  · exact h3 r
theorem nodup_put {k : Key} {v : V} {ks : List (Key × V)} (h : (ks.map (·.1)).Nodup) : ((putK ks k v).map (·.1)).Nodup := by
  cases e : valV ks k with
  | none => exact nd_putK v h e
  | some u =>
    unfold putK
    rw [valV_any, e]
    rw [if_pos (show (some u).isSome = true from rfl), List.map_map]
    have : ((fun x : Key × V => x.1) ∘ fun kv : Key × V => if kv.1 = k then (kv.1, v) else kv) = fun x => x.1 := by
      funext p
      show (if p.1 = k then (p.1, v) else p).1 = p.1
      split <;> rfl
    rw [this]
    exact h
theorem len_put {k : Key} {v : V} {ks : List (Key × V)} : (putK ks k v).length ≤ ks.length + 1 := by
  unfold putK
  split
  · rw [List.length_map]; exact Nat.le_succ _
  · rw [List.length_append] <;> exact Nat.le_refl _
theorem merge_rep {F : Hp} : ∀ {kvs : List (Key × V)} {ps : List (Key × D)} {acc : List (Key × V)} {ds : List (DK × D)}, Paired (fun (kv : Key × V) (kd : Key × D) => kv.1 = kd.1 ∧ Rep F kv.2 kd.2) kvs ps → RepK F acc ds → (acc.map (·.1)).Nodup →
    RepK F (mergeK acc kvs) (mergeD ds ps) ∧ ((mergeK acc kvs).map (·.1)).Nodup ∧ (mergeK acc kvs).length ≤ acc.length + kvs.length
  | _, _, acc, ds, .nil, r, n => ⟨r, n, Nat.le_refl _⟩
  | _, _, acc, ds, .cons (a := kv) (b := kd) h t, r, n => by
    obtain ⟨h1, h2⟩ := h
    obtain ⟨k, v⟩ := kv
    obtain ⟨k', d⟩ := kd
    cases (show k = k' from h1)
    have q := merge_rep t (repK_put (k := k) h2 r) (nodup_put n)
    refine ⟨q.1, q.2.1, Nat.le_trans q.2.2 ?_⟩
    have h5 := len_put (k := k) (v := v) (ks := acc)
    rw [List.length_cons]
    show (putK acc k v).length + _ ≤ _
    omega
theorem b_dict : BnR Γ "dict" (.type "dict") .own dictD := by
  refine ⟨fun xs H Q => ∃ (a : Addr) (ps : List Addr) (kvs : List (Key × V)), xs = [.ref a] ∧ SqL Γ.K H a (ps.map V.ref) ∧ Paired (fun p kv => SqT Γ.K H p [kV kv.1, kv.2]) ps kvs ∧ ∀ p, H p = none → Q (.ref p) (upd H p (.dK (mergeK [] kvs))),
    fun X h => by rw [← h.K]; exact call_dictP h.calm, fun F H xs ds c Q k t hg q => ?_⟩
  unfold dictD at hg
  split at hg
  · rename_i l
    obtain ⟨v, rfl, a⟩ := top1 t
    cases a with
    | lst e1 h1 r1 =>
      cases q1 : pairsD l with
      | none => rw [q1] at hg; cases hg
      | some ps =>
        rw [q1] at hg
        cases hg
        obtain ⟨as, kvs, g1, g2, g3⟩ := pairs_rep (K := Γ.K) k r1 q1
        subst g1
        obtain ⟨m1, m2, m3⟩ := merge_rep g3 .nil List.nodup_nil
        refine ⟨_, as, kvs, rfl, SqL.of e1, g2, fun p hp => q _ _ _ (Grow.allocH k hp) ⟨p, rfl, hp, k.free hp, .dctK upd_same ?_ m2 m1⟩⟩
        have e2 : kvs.length = as.length := (Paired.length g2).symm
        rw [List.length_map] at h1
        simp only [List.length_nil, Nat.zero_add] at m3
        omega
  · cases hg
end
end PD
namespace PD
open PySem PySem.Spec L2

/-! ### what is walked -/
def ItOk (F : Hp) (J : It) (ds : List D) : Prop := ∀ F' H', Same F F' → Same F' H' → ∀ i : Nat,
  (∀ d, ds[i]? = some d → J.go i H' ∧ ∀ x H2, J.yld i H' x H2 → H2 = H' ∧ Rep F' x d) ∧ (ds.length ≤ i → J.stop i H')
def VRi : RV (List D) It := fun _ F _ J ds => ItOk F J ds
section
variable {X : Cx} {tg : Expr}
def iSeq (K : PySem.W.Frag) (tl : TE) : TI := fun σ H R => tl σ H fun x H1 => (∃ a, x = .ref a ∧ (∃ xs, SqL K H1 a xs) ∧ R (Itl K a) H1) ∨ (∃ a, x = .ref a ∧ (∃ xs, SqT K H1 a xs) ∧ R (Itt K a) H1) ∨ ∃ z, x = .str z ∧ R (Its z) H1
theorem pi_seq {l : Expr} {tl : TE} (hl : PE X l tl) : PI X tg l (iSeq X.K tl) := by
  refine ⟨fun pins s σ H R I h => ?_⟩
  refine thn (hl.run pins s σ H _ I h) fun v s1 ⟨x, H1, I1, r1, q1⟩ => ?_
  rcases q1 with ⟨a, e, ⟨xs, hq⟩, q⟩ | ⟨a, e, ⟨xs, hq⟩, q⟩ | ⟨z, e, q⟩
  · subst e
    cases r1
    obtain ⟨its, rv, p, hz⟩ := I1.list hq
    refine wpAny_pyIter_list p.isList ?_
    refine ⟨s1.heap.objs.size, [s1.heap.objs.size], _, _, H1, rfl, I1.kept (t' := s1.toks) fun b o e => Heap.get?_push_of_some _ e, turn_list a _, ⟨_, Heap.get?_push_size _ rfl, rfl, rfl⟩, fun b hb => ?_, q⟩
    have e : b = s1.heap.objs.size := by simpa using hb
    subst e
    exact I1.fpOk (Nat.le_refl _) (I1.hok.fresh (Nat.le_refl _))
  · subst e
    cases r1
    obtain ⟨its, rv, p, hz⟩ := I1.tuple hq
    refine wpAny_pyIter_tuple (show s1.heap.IsTuple a its.toArray from p) ?_
    refine ⟨s1.heap.objs.size, [s1.heap.objs.size], _, _, H1, rfl, I1.kept (t' := s1.toks) fun b o e => Heap.get?_push_of_some _ e, turn_tuple a _, ⟨_, Heap.get?_push_size _ rfl, rfl, rfl⟩, fun b hb => ?_, q⟩
    have e : b = s1.heap.objs.size := by simpa using hb
    subst e
    exact I1.fpOk (Nat.le_refl _) (I1.hok.fresh (Nat.le_refl _))
  · subst e
    obtain ⟨t, rfl⟩ := r1
    cases ha : z.cps.all (· < 128)
    · exact wpAny_pyIter_wide ha (pi_one (tk := s1.toks) I1 _ (turn_str _ z t "str_iterator" (.inr rfl)) ⟨_, Heap.get?_push_size _ rfl, rfl, rfl⟩ q)
    · exact wpAny_pyIter_ascii ha (pi_one (tk := s1.toks) I1 _ (turn_str _ z t "str_ascii_iterator" (.inl rfl)) ⟨_, Heap.get?_push_size _ rfl, rfl, rfl⟩ q)
end
theorem itOk_list {K : PySem.W.Frag} {F : Hp} {p : Addr} {vs : List V} {ds : List D} (e : F p = some (.lst vs)) (r : RepL F vs ds) : ItOk F (Itl K p) ds := fun F' H' k k' i => by
  have e' : H' p = some (.lst vs) := k' _ _ (k _ _ e)
  have r' := r.mono k
  refine ⟨fun d hd => ?_, fun hl => ⟨vs, SqL.of e', by rw [r.length]; exact hl⟩⟩
  obtain ⟨v, h1, h2⟩ := r'.get hd
  refine ⟨⟨vs, v, SqL.of e', h1⟩, fun x H2 y => ⟨y.1, ?_⟩⟩
  have := y.2 vs (SqL.of e')
  rw [h1] at this
  cases this
  exact h2
theorem itOk_tup {K : PySem.W.Frag} {F : Hp} {p : Addr} {vs : List V} {ds : List D} (e : F p = some (.tup vs)) (r : RepL F vs ds) : ItOk F (Itt K p) ds := fun F' H' k k' i => by
  have e' : H' p = some (.tup vs) := k' _ _ (k _ _ e)
  have r' := r.mono k
  refine ⟨fun d hd => ?_, fun hl => ⟨vs, SqT.of e', by rw [r.length]; exact hl⟩⟩
  obtain ⟨v, h1, h2⟩ := r'.get hd
  refine ⟨⟨vs, v, SqT.of e', h1⟩, fun x H2 y => ⟨y.1, ?_⟩⟩
  have := y.2 vs (SqT.of e')
  rw [h1] at this
  cases this
  exact h2
def strL (z : Str) : List D := z.cps.toList.map fun c => .str ⟨#[c]⟩
theorem itOk_str {F : Hp} {z : Str} : ItOk F (Its z) (strL z) := fun F' H' k k' i => by
  unfold strL
  refine ⟨fun d hd => ?_, fun hl => ?_⟩
  · rw [List.getElem?_map] at hd
    cases q : z.cps.toList[i]? with
    | none => rw [q] at hd; cases hd
    | some c =>
      rw [q] at hd
      cases hd
      have hi : i < z.cps.size := by
        have := (List.getElem?_eq_some_iff.mp q).1
        rwa [Array.length_toList] at this
      refine ⟨hi, fun x H2 y => ⟨y.1, ?_⟩⟩
      obtain ⟨_, c', hc, rfl⟩ := y
      rw [Array.getElem?_toList] at q
      rw [q] at hc
      cases hc
      exact .str _
  · rw [List.length_map, Array.length_toList] at hl
    exact hl
def rangeL (lo : Int) (n : Nat) : List D := (List.range n).map fun (i : Nat) => D.int (lo + (i : Int))
theorem itOk_range {F : Hp} {lo : Int} {n : Nat} : ItOk F (Itr lo n) (rangeL lo n) := fun F' H' k k' i => by
  unfold rangeL
  refine ⟨fun d hd => ?_, fun hl => by rw [List.length_map, List.length_range] at hl; exact hl⟩
  rw [List.getElem?_map] at hd
  by_cases hi : i < n
  · rw [List.getElem?_range hi] at hd
    cases hd
    refine ⟨hi, fun x H2 y => ⟨y.1, ?_⟩⟩
    obtain ⟨_, rfl⟩ := y
    exact .int _
  · rw [List.getElem?_eq_none (by rw [List.length_range]; omega)] at hd
    cases hd
def JI (Γ : Gam) (pu : Bool) (e : Expr) (f : Env → Out (List D)) : Prop :=
  ∃ wi : WX → TI, (∀ W, Sem Γ.mg pu W VRi (wi W) f) ∧ ∀ X W tg, Γ.Has X → Cond X W → PI X tg e (wi W)
def seqD : D → Option (List D)
  | .lst l => some l
  | .tup l => some l
  | .str z => some (strL z)
  | _ => none
def dSeq (fa : Env → Out D) : Env → Out (List D) := fun ρ => (fa ρ).bind fun d ρ1 => match seqD d with | some l => .ok l ρ1 | none => .bad
section
variable {Γ : Gam} {m ma : Md} {pu pb : Bool} {W : WX} {pos : Pos} {a e : Expr} {fa fb : Env → Out D} {x : Str} {p : Pos}
theorem ji_seq (h : JE Γ .fro pu e fa) : JI Γ pu e (dSeq fa) := by
  obtain ⟨t, s, pe⟩ := h
  refine ⟨fun W => iSeq Γ.K (t W), fun W b σ H F ρ Q E P => ?_, fun X W tg g c => by have q := pi_seq (tg := tg) (pe X W g c); rw [g.K] at q; exact q⟩
  refine s W b σ H F ρ _ E (P.bind (pa := pu) id fun d ρ1 x F1 H1 s1 k1 E1 r1 P1 => ?_)
  have r : Rep F1 x d := r1
  cases r with
  | lst e1 h1 r2 => exact .inl ⟨_, rfl, ⟨_, SqL.of (E1.sub _ _ e1)⟩, Post.done (R := fun _ => VRi H) P1 E1 (Grow.refl E1.sub) (itOk_list e1 r2)⟩
  | tup e1 h1 r2 => exact .inr (.inl ⟨_, rfl, ⟨_, SqT.of (E1.sub _ _ e1)⟩, Post.done (R := fun _ => VRi H) P1 E1 (Grow.refl E1.sub) (itOk_tup e1 r2)⟩)
  | str z => exact .inr (.inr ⟨z, rfl, Post.done (R := fun _ => VRi H) P1 E1 (Grow.refl E1.sub) itOk_str⟩)
  | _ => exact (P1 : False).elim
def dRng1 (fa : Env → Out (List D)) : Env → Out (List D) := fun ρ => (fa ρ).bind fun ds ρ1 => match ds with | [.int n] => if -(2 ^ 62) ≤ n ∧ n < 2 ^ 62 then .ok (rangeL 0 n.toNat) ρ1 else .bad | _ => .bad
def dRng2 (fa : Env → Out (List D)) : Env → Out (List D) := fun ρ => (fa ρ).bind fun ds ρ1 => match ds with | [.int i, .int j] => if -(2 ^ 62) ≤ i ∧ i < 2 ^ 62 ∧ -(2 ^ 62) ≤ j ∧ j < 2 ^ 62 then .ok (rangeL i (j - i).toNat) ρ1 else .bad | _ => .bad
theorem ji_range1 {fs : Env → Out (List D)} (hg : Γ.sc.names.lookup ("range" : Str) = some .globalImplicit) (hm : Γ.mg "range" = none) (ha : JA Γ ma pu [a] fs) (hs : ∀ env, starEach [a] env = [(false, eval a env)]) : JI Γ pu (.Call (.Name "range" p) [a] [] pos) (dRng1 fs) := by
  obtain ⟨t, s, pa⟩ := ha
  refine ⟨fun W => iRng1 (t W), fun W b σ H F ρ Q E P => ?_, fun X W tg g c => pi_range1 (show X.env.scope.names.lookup ("range" : Str) = some .globalImplicit by rw [g.sc]; exact hg) (by rw [g.mg]; exact hm) (pa X W g c) (hs _)⟩
  refine s W b σ H F ρ _ E (P.bind (pa := pu) id fun ds ρ1 xs F1 H1 s1 k1 E1 r1 P1 => ?_)
  try dsimp only at P1
  split at P1
  · split at P1
    · rename_i n hn
      obtain ⟨v, rfl, t⟩ := top1 (r1.tops E1.sub)
      cases t
      exact ⟨n, rfl, hn.1, hn.2, Post.done (R := fun _ => VRi H) P1 E1 (Grow.refl E1.sub) itOk_range⟩
    · exact P1.elim
  · exact P1.elim
theorem ji_range2 {fs : Env → Out (List D)} (hg : Γ.sc.names.lookup ("range" : Str) = some .globalImplicit) (hm : Γ.mg "range" = none) (ha : JA Γ ma pu [a, e] fs) (hs : ∀ env, starEach [a, e] env = [(false, eval a env), (false, eval e env)]) (hs2 : ∀ env, starEach [e] env = [(false, eval e env)]) :
    JI Γ pu (.Call (.Name "range" p) [a, e] [] pos) (dRng2 fs) := by
  obtain ⟨t, s, pa⟩ := ha
  refine ⟨fun W => iRng2 (t W), fun W b σ H F ρ Q E P => ?_, fun X W tg g c => pi_range2 (show X.env.scope.names.lookup ("range" : Str) = some .globalImplicit by rw [g.sc]; exact hg) (by rw [g.mg]; exact hm) (pa X W g c) (hs _) (hs2 _)⟩
  refine s W b σ H F ρ _ E (P.bind (pa := pu) id fun ds ρ1 xs F1 H1 s1 k1 E1 r1 P1 => ?_)
  try dsimp only at P1
  split at P1
  · split at P1
    · rename_i i j hn
      obtain ⟨v, u, rfl, t, t'⟩ := top2 (r1.tops E1.sub)
      cases t
      cases t'
      exact ⟨i, j, rfl, hn, Post.done (R := fun _ => VRi H) P1 E1 (Grow.refl E1.sub) itOk_range⟩
    · exact P1.elim
  · exact P1.elim
/-! ### targets -/
/-- σ' is σ but at the slots js -/
structure But (js : List Nat) (σ σ' : L2.St) : Prop where
  len : σ'.length = σ.length
  at_ : ∀ j, j ∉ js → σ'[j]? = σ[j]?
theorem But.trans {js ks : List Nat} {σ σ1 σ2 : L2.St} (a : But js σ σ1) (b : But ks σ1 σ2) : But (js ++ ks) σ σ2 :=
  ⟨b.len.trans a.len, fun j h => (b.at_ j fun z => h (List.mem_append_right _ z)).trans (a.at_ j fun z => h (List.mem_append_left _ z))⟩
def SemG (js : List Nat) (g : TG) (f : D → Env → Option Env) : Prop :=
  ∀ b σ H F ρ v d ρ' Q, ER b F H σ ρ → Rep F v d → f d ρ = some ρ' → (∀ σ', But js σ σ' → (∀ c, NotEx σ ρ c → NotEx σ' ρ' c) → ER b F H σ' ρ' → Q σ' H) → g v σ H Q
def EnvBut (js : List Nat) (f : D → Env → Option Env) : Prop := ∀ d ρ ρ', f d ρ = some ρ' → ∀ j, j ∉ js → ρ'[j]? = ρ[j]?
def JG (Γ : Gam) (js : List Nat) (tg : Expr) (f : D → Env → Option Env) : Prop :=
  EnvBut js f ∧ ∃ g : TG, SemG js g f ∧ ∀ X, Γ.Has X → PG X tg g
def gN (i : Nat) : D → Env → Option Env := fun d ρ => if i < ρ.length then some (ρ.set i (some (.fro d))) else none
theorem but_set {σ : L2.St} {i : Nat} {v : V} : But [i] σ (σ.set i (some v)) := ⟨List.length_set, fun j h => List.getElem?_set_ne (fun z => h (by rw [z]; exact List.mem_singleton_self _))⟩
theorem notEx_set {σ : L2.St} {ρ : Env} {v : V} {d : D} (i : Nat) {c : Addr} (h : NotEx σ ρ c) : NotEx (σ.set i (some v)) (ρ.set i (some (.fro d))) c := fun j s hj hs => by
  by_cases e : i = j
  · subst e
    have hl : i < ρ.length := by
      have := (List.getElem?_eq_some_iff.mp hj).1
      rwa [List.length_set] at this
    rw [List.getElem?_set_self hl] at hj
    cases hj; cases hs
  · rw [List.getElem?_set_ne e] at hj
    rw [List.getElem?_set_ne e]
    exact h j s hj hs
theorem jg_name (i : Nat) (hi : Γ.N[i]? = some x) (hx : Loc Γ.sc x) (hf : Γ.fn x = true ∨ Γ.sc.names.lookup x = some .local) : JG Γ [i] (.Name x pos) (gN i) := by
  refine ⟨(fun d ρ ρ' h j hj => by
    unfold gN at h
    split at h
    · cases h
      exact List.getElem?_set_ne fun z => hj (by rw [z]; exact List.mem_singleton_self _)
    · cases h), gName i, fun b σ H F ρ v d ρ' Q E r hf q => ?_, fun X g => pg_name (by rw [g.N]; exact g.nd) (by rw [g.N]; exact hi) (by rw [g.sc]; exact hx) (by rw [g.fn, g.sc]; exact hf)⟩
  unfold gN at hf
  split at hf
  · cases hf
    exact q _ but_set (fun c h => notEx_set i h) (E.setF i r)
  · cases hf
def SemGs (js : List Nat) (g : TGs) (f : List D → Env → Option Env) : Prop :=
  ∀ b σ H F ρ vs ds ρ' Q, ER b F H σ ρ → RepL F vs ds → f ds ρ = some ρ' → (∀ σ', But js σ σ' → (∀ c, NotEx σ ρ c → NotEx σ' ρ' c) → ER b F H σ' ρ' → Q σ' H) → g vs σ H Q
def EnvButs (js : List Nat) (f : List D → Env → Option Env) : Prop := ∀ d ρ ρ', f d ρ = some ρ' → ∀ j, j ∉ js → ρ'[j]? = ρ[j]?
def JGs (Γ : Gam) (js : List Nat) (tgs : List Expr) (f : List D → Env → Option Env) : Prop :=
  EnvButs js f ∧ ∃ g : TGs, SemGs js g f ∧ ∀ X, Γ.Has X → PGs X tgs g
def gsNil : List D → Env → Option Env := fun ds ρ => match ds with | [] => some ρ | _ => none
def gsCons (g : D → Env → Option Env) (gs : List D → Env → Option Env) : List D → Env → Option Env := fun ds ρ => match ds with
  | d :: r => match g d ρ with
    | some ρ1 => gs r ρ1
    | none => none
  | [] => none
theorem jgs_nil : JGs Γ [] [] gsNil := by
  refine ⟨(fun ds ρ ρ' h j _ => by
    cases ds with
    | nil => cases h; rfl
    | cons _ _ => cases h), gNil, fun b σ H F ρ vs ds ρ' Q E r hf q => ?_, fun X g => pgs_nil⟩
  cases r with
  | nil => cases hf; exact ⟨rfl, q _ ⟨rfl, fun _ _ => rfl⟩ (fun _ h => h) E⟩
  | cons _ _ => cases hf
theorem jgs_cons {js ks : List Nat} {tgs : List Expr} {g : D → Env → Option Env} {gs : List D → Env → Option Env} (h1 : JG Γ js e g) (h2 : JGs Γ ks tgs gs)
    (hs : ∀ env, (assignEach (e :: tgs) env).map (·.2) = assign e env :: (assignEach tgs env).map (·.2)) : JGs Γ (js ++ ks) (e :: tgs) (gsCons g gs) := by
  obtain ⟨n1, t, s, p⟩ := h1
  obtain ⟨n2, u, s2, p2⟩ := h2
  refine ⟨(fun ds ρ ρ' h j hj => by
    rw [List.mem_append, not_or] at hj
    cases ds with
    | nil => cases h
    | cons d r =>
      unfold gsCons at h
      dsimp only at h
      cases q : g d ρ with
      | none => rw [q] at h; cases h
      | some ρ1 =>
        rw [q] at h
        exact (n2 r ρ1 ρ' h j hj.2).trans (n1 d ρ ρ1 q j hj.1)), gCons t u, fun b σ H F ρ vs ds ρ' Q E r hf q => ?_, fun X g => pgs_cons (p X g) (p2 X g) (hs _)⟩
  cases r with
  | nil => cases hf
  | @cons v d vs ds a r =>
    unfold gsCons at hf
    dsimp only at hf
    cases e1 : g d ρ with
    | none => rw [e1] at hf; cases hf
    | some ρ1 =>
      rw [e1] at hf
      exact ⟨v, vs, rfl, s b σ H F ρ v d ρ1 _ E a e1 fun σ1 B1 n1 E1 => s2 b σ1 H F ρ1 vs ds ρ' Q E1 r hf fun σ2 B2 n2 E2 => q σ2 (B1.trans B2) (fun c h => n2 c (n1 c h)) E2⟩
def gTupD (n : Nat) (gs : List D → Env → Option Env) : D → Env → Option Env := fun d ρ => match d with
  | .tup l => if l.length = n then gs l ρ else none
  | _ => none
theorem jg_tup {js : List Nat} {tgs : List Expr} {gs : List D → Env → Option Env} {k n : Nat} (h : JGs Γ js tgs gs) (hn : ∀ env, (assignEach tgs env).length = n) (hst : ∀ env, (assignEach tgs env).findIdx? (·.1) = none) : JG Γ js (.Tuple tgs k pos) (gTupD n gs) := by
  obtain ⟨n1, u, s2, p2⟩ := h
  refine ⟨(fun d ρ ρ' h j hj => by
    cases d with
    | tup l =>
      unfold gTupD at h
      dsimp only at h
      split at h
      · exact n1 l ρ ρ' h j hj
      · cases h
    | _ => cases h), gTup Γ.K n u, fun b σ H F ρ v d ρ' Q E r hf q => ?_, fun X g => by have q := pg_tup (pos := pos) (k := k) g.calm (p2 X g) (hn _) (hst _); rw [g.K] at q; exact q⟩
  cases r with
  | tup e1 h1 r1 =>
    unfold gTupD at hf
    dsimp only at hf
    split at hf
    · rename_i hl
      exact ⟨_, _, rfl, SqT.of (E.sub _ _ e1), by rw [r1.length]; exact hl, s2 b σ H F ρ _ _ ρ' Q E r1 hf q⟩
    · cases hf
  | _ => cases hf
end
end PD
namespace PD
open PySem PySem.Spec L2

def wipeE (ρ : Env) : List Nat → Env
  | [] => ρ
  | v :: vs => (wipeE ρ vs).set v none
def restE (ρ ρ' : Env) : List Nat → Env
  | [] => ρ'
  | v :: vs => match ρ[v]? with
    | some s => (restE ρ ρ' vs).set v s
    | none => restE ρ ρ' vs
def chkE (ρ : Env) (vs : List Nat) : Bool := vs.all fun v => match ρ[v]? with
  | some (some s) => !s.ex
  | _ => true
theorem wipeE_len (ρ : Env) : ∀ vs, (wipeE ρ vs).length = ρ.length
  | [] => rfl
  | v :: vs => by unfold wipeE; rw [List.length_set, wipeE_len ρ vs]
theorem wipeE_some {ρ : Env} {j : Nat} {s : Sl} : ∀ {vs : List Nat}, (wipeE ρ vs)[j]? = some (some s) → ρ[j]? = some (some s) ∧ j ∉ vs
  | [], h => ⟨h, by simp⟩
  | v :: vs, h => by
    unfold wipeE at h
    by_cases e : v = j
    · subst e
      by_cases hv : v < (wipeE ρ vs).length
      · rw [List.getElem?_set_self hv] at h; cases h
      · rw [List.getElem?_eq_none (by simpa using hv)] at h; cases h
    · rw [List.getElem?_set_ne e] at h
      obtain ⟨h1, h2⟩ := wipeE_some h
      exact ⟨h1, by simp only [List.mem_cons, not_or]; exact ⟨fun z => e z.symm, h2⟩⟩
theorem restE_len {ρ ρ' : Env} : ∀ vs, (restE ρ ρ' vs).length = ρ'.length
  | [] => rfl
  | v :: vs => by
    unfold restE
    split
    · rw [List.length_set, restE_len vs]
    · exact restE_len vs
theorem restE_out {ρ ρ' : Env} {j : Nat} : ∀ {vs : List Nat}, j ∉ vs → (restE ρ ρ' vs)[j]? = ρ'[j]?
  | [], _ => rfl
  | v :: vs, h => by
    rw [List.mem_cons, not_or] at h
    unfold restE
    split
    · rw [List.getElem?_set_ne (fun z => h.1 z.symm)]; exact restE_out h.2
    · exact restE_out h.2
theorem restE_in {ρ ρ' : Env} {j : Nat} (hl : ρ.length = ρ'.length) : ∀ {vs : List Nat}, j ∈ vs → (restE ρ ρ' vs)[j]? = ρ[j]?
  | [], h => by cases h
  | v :: vs, h => by
    unfold restE
    by_cases e : v = j
    · subst e
      cases q : ρ[v]? with
      | none =>
        have : ρ'.length ≤ v := by rw [← hl]; exact List.getElem?_eq_none_iff.mp q
        exact List.getElem?_eq_none (by rw [restE_len]; exact this)
      | some s =>
        have hv : v < (restE ρ ρ' vs).length := by rw [restE_len, ← hl]; exact (List.getElem?_eq_some_iff.mp q).1
        exact List.getElem?_set_self hv
    · have hm : j ∈ vs := by
        rcases List.mem_cons.mp h with z | z
        · exact absurd z.symm e
        · exact z
      split
      · rw [List.getElem?_set_ne e]; exact restE_in hl hm
      · exact restE_in hl hm
theorem wipe_out {σ : L2.St} {j : Nat} : ∀ {vs : List Nat}, j ∉ vs → (wipe σ vs)[j]? = σ[j]?
  | [], _ => rfl
  | v :: vs, h => by
    rw [List.mem_cons, not_or] at h
    unfold wipe
    rw [List.getElem?_set_ne (fun z => h.1 z.symm)]; exact wipe_out h.2
theorem wipe_ext {σ σ' : L2.St} (hl : σ'.length = σ.length) : ∀ {vs : List Nat}, (∀ j, j ∉ vs → σ'[j]? = σ[j]?) → wipe σ' vs = wipe σ vs := fun {vs} h => by
  apply List.ext_getElem?
  intro j
  by_cases hj : j ∈ vs
  · have z : ∀ (τ : L2.St) (us : List Nat), j ∈ us → (wipe τ us)[j]? = if j < τ.length then some none else none := by
      intro τ us
      induction us with
      | nil => intro h; cases h
      | cons u us ih =>
        intro hm
        unfold wipe
        by_cases e : u = j
        · subst e
          by_cases hu : u < (wipe τ us).length
          · rw [List.getElem?_set_self hu, if_pos (by rw [← wipe_length τ us]; exact hu)]
          · rw [List.getElem?_eq_none (by rw [List.length_set]; omega), if_neg (by rw [← wipe_length τ us]; exact hu)]
        · rw [List.getElem?_set_ne e]
          exact ih (by rcases List.mem_cons.mp hm with z | z; exact absurd z.symm e; exact z)
    rw [z σ' vs hj, z σ vs hj, hl]
  · rw [wipe_out hj, wipe_out hj, h j hj]
section
variable {b : Bs} {F H F' H' : Hp} {σ σ2 : L2.St} {ρ ρ4 : Env} {vs : List Nat}
theorem ER.wipe (E : ER b F H σ ρ) (vs : List Nat) : ER b F H (L2.wipe σ vs) (wipeE ρ vs) where
  sub := E.sub
  len := by rw [wipeE_len, wipe_length]; exact E.len
  slot := fun j s h => by
    obtain ⟨h1, h2⟩ := wipeE_some h
    obtain ⟨v, h3, h4⟩ := E.slot j s h1
    exact ⟨v, by rw [wipe_out h2]; exact h3, h4⟩
  sep := fun i j s t v hij hi hs hj hv => by
    obtain ⟨h1, h2⟩ := wipeE_some hi
    obtain ⟨h3, h4⟩ := wipeE_some hj
    rw [wipe_out h2] at hv
    rw [wipe_out h4]
    exact E.sep i j s t v hij h1 hs h3 hv
  base := E.base
  live := E.live
  fro := E.fro
  new := E.new
theorem notEx_wipe {c : Addr} (h : NotEx σ ρ c) : NotEx (L2.wipe σ vs) (wipeE ρ vs) c := fun i s hi hs => by
  obtain ⟨h1, h2⟩ := wipeE_some hi
  rw [wipe_out h2]
  exact h i s h1 hs
theorem chk_ex (h : chkE ρ vs = true) {j : Nat} {s : Sl} (hj : j ∈ vs) (e : ρ[j]? = some (some s)) : s.ex = false := by
  have q := (List.all_eq_true.mp h) j hj
  rw [e] at q
  simpa using q
theorem ER.rest (E : ER b F H σ ρ) (hc : chkE ρ vs = true) (k : Same F F') (E' : ER b F' H' σ2 ρ4) (hw : L2.wipe σ2 vs = L2.wipe σ vs) : ER b F' H' σ (restE ρ ρ4 vs) := by
  have hl : σ2.length = σ.length := by rw [← wipe_length σ2 vs, hw, wipe_length]
  have hl2 : ρ.length = ρ4.length := by rw [E.len, E'.len, hl]
  have out : ∀ j, j ∉ vs → σ2[j]? = σ[j]? := fun j hj => by rw [← wipe_out (σ := σ2) hj, hw, wipe_out hj]
  refine ⟨E'.sub, by rw [restE_len, ← hl2]; exact E.len, fun j s h => ?_, fun i j s t v hij hi hs hj hv => ?_, E'.base, E'.live, E'.fro, E'.new⟩
  · by_cases hj : j ∈ vs
    · rw [restE_in hl2 hj] at h
      obtain ⟨v, h1, h2⟩ := E.slot j s h
      have hx := chk_ex hc hj h
      exact ⟨v, h1, h2.mono k (fun z => by rw [hx] at z; cases z) fun z => by rw [hx] at z; cases z⟩
    · rw [restE_out hj] at h
      obtain ⟨v, h1, h2⟩ := E'.slot j s h
      exact ⟨v, by rw [← out j hj]; exact h1, h2⟩
  · have hi' : i ∉ vs := fun z => by
      rw [restE_in hl2 z] at hi
      rw [chk_ex hc z hi] at hs
      cases hs
    rw [restE_out hi'] at hi
    have hv' : σ2[i]? = some (some v) := by rw [out i hi']; exact hv
    by_cases hj' : j ∈ vs
    · rw [restE_in hl2 hj'] at hj
      intro z
      obtain ⟨u, h1, h2⟩ := E.slot j t hj
      rw [z] at h1
      cases h1
      have hx := chk_ex hc hj' hj
      obtain ⟨u, g1, g2⟩ := E'.slot i s hi
      rw [hv'] at g1
      cases g1
      cases t with
      | fro d =>
        have h3 : Rep F' v d := Rep.mono k h2
        cases s with
        | fro _ => cases hs
        | own _ => obtain ⟨p, rfl, n, _⟩ := g2; exact h3.fne n
        | arg _ => obtain ⟨p, rfl, n, _⟩ := g2; exact h3.fne n
      | own _ => cases hx
      | arg _ => cases hx
    · rw [restE_out hj'] at hj
      rw [← out j hj']
      exact E'.sep i j s t v hij hi hs hj hv'
theorem notEx_rest (hc : chkE ρ vs = true) (hl2 : ρ.length = ρ4.length) (hw : L2.wipe σ2 vs = L2.wipe σ vs) {c : Addr} (h : NotEx σ2 ρ4 c) : NotEx σ (restE ρ ρ4 vs) c := fun i s hi hs => by
  have hi' : i ∉ vs := fun z => by
    rw [restE_in hl2 z] at hi
    rw [chk_ex hc z hi] at hs
    cases hs
  rw [restE_out hi'] at hi
  rw [← wipe_out (σ := σ) hi', ← hw, wipe_out hi']
  exact h i s hi hs
/-- an object that stands apart is changed -/
theorem ER.aside (E : ER b F H σ ρ) {D : Addr} {o : HO} (n : F D = none) (h0 : b.H0 D = none) (hn : NotEx σ ρ D) : ER b F (upd H D o) σ ρ where
  sub := fun c u q => by rw [upd_ne (ne_of_none q n)]; exact E.sub c u q
  len := E.len
  slot := fun j s h => by
    obtain ⟨v, h1, h2⟩ := E.slot j s h
    refine ⟨v, h1, h2.mono (.refl _) (fun hx p hp u hu => ?_) fun hx p hp => ?_⟩
    · subst hp
      have : p ≠ D := fun z => by subst z; exact hn j s h hx h1
      rw [upd_ne this]; exact hu
    · subst hp
      cases s with
      | fro _ => cases hx
      | own _ => obtain ⟨p', e, m, _⟩ := h2; cases e; exact m
      | arg _ => obtain ⟨p', e, m, _⟩ := h2; cases e; exact m
  sep := E.sep
  base := fun c u h m => by
    have : c ≠ D := fun z => by subst z; rw [h0] at h; cases h
    rw [upd_ne this]; exact E.base c u h m
  live := fun c h => by
    by_cases e : c = D
    · subst e; rw [upd_same]; simp
    · rw [upd_ne e]; exact E.live c h
  fro := E.fro
  new := E.new
end

/-! ### list comprehensions -/
def lcL (vs : List Nat) (g : D → Env → Option Env) (ft : Env → Out Bool) (fe : Env → Out D) : List D → Env → Option (List D × Env)
  | [], ρ => some ([], ρ)
  | d :: r, ρ => match g d (wipeE ρ vs) with
    | some ρ2 => match ft ρ2 with
      | .ok true ρ3 => match fe ρ3 with
        | .ok y ρ4 => match lcL vs g ft fe r (restE ρ ρ4 vs) with
          | some (ys, ρ5) => some (y :: ys, ρ5)
          | none => none
        | _ => none
      | .ok false ρ3 => lcL vs g ft fe r (restE ρ ρ3 vs)
      | _ => none
    | none => none
def dLc (vs : List Nat) (fi : Env → Out (List D)) (g : D → Env → Option Env) (ft : Env → Out Bool) (fe : Env → Out D) : Env → Out D := fun ρ =>
  (fi ρ).bind fun ds ρ1 => if chkE ρ1 vs = true ∧ ds.length ≤ sizeLine then (match lcL vs g ft fe ds ρ1 with | some (ys, ρ2) => .ok (.lst ys) ρ2 | none => .bad) else .bad
def Gam.blk (Γ : Gam) (scope : Scope) : Gam := { Γ with sc := relS scope Γ.sc, fn := fun x => scope.names.lookup x == some .cell }
theorem Gam.Has.blk {Γ : Gam} {X : Cx} (h : Γ.Has X) (scope : Scope) (s : Shared) (H : Hp) (C : Addr) (cl : List (Str × Addr)) (fp : List Addr) : (Γ.blk scope).Has (X.blk s H scope (compEnvC scope cl C X.env) fp) :=
  ⟨h.prog, h.w, h.K, h.mg, h.base, h.N, by show relS scope X.env.scope = relS scope Γ.sc; rw [h.sc], rfl, h.room, h.calm, h.nd⟩
theorem cond_blk {X : Cx} {s : Shared} {H : Hp} {scope : Scope} {e : PySem.Env} {fp : List Addr} : Cond (X.blk s H scope e fp) WF := ⟨takesF _, PassesOwn.never⟩
def JTs (Γ : Gam) (pu : Bool) (es : List Expr) (f : Env → Out Bool) : Prop :=
  ∃ te : WX → TT, (∀ W, Sem Γ.mg pu W VRb (te W) f) ∧ ∀ X W, Γ.Has X → Cond X W → PTs X es (te W)
section
variable {Γ : Gam} {m ma : Md} {pu : Bool} {W : WX} {pos : Pos} {elt tg iter c : Expr} {fi : Env → Out (List D)} {fe : Env → Out D} {ft : Env → Out Bool} {g : D → Env → Option Env} {ifs : List Expr} {scope : Scope} {own : List (Str × Nat)} {js : List Nat}
theorem jts_nil : JTs Γ pu [] (fun ρ => .ok true ρ) := ⟨fun _ => tYes, fun W b σ H F ρ Q E P => Post.done (R := VRb) P E (Grow.refl E.sub) rfl, fun X W h c => pts_nil⟩
theorem jts_one (h : JT Γ pu c ft) : JTs Γ pu [c] ft := let ⟨t, s, p⟩ := h; ⟨t, s, fun X W h c => pts_one (p X W h c)⟩
theorem sem_lc {mg : Str → Option Value} {wi : TI} {tg : TG} {tt : TT} {te : TE} {vs : List Nat} (hj : ∀ j ∈ js, j ∈ vs) (si : Sem mg pu W VRi wi fi) (sb : EnvBut js g) (sg : SemG js tg g) (st : Sem mg pu WF VRb tt ft) (se : Sem mg pu WF (VRg .fro) te fe) :
    Sem mg pu W (VRg .own) (tLc wi tg tt te vs) (dLc vs fi g ft fe) := fun b σ H F ρ Q E P =>
  si b σ H F ρ _ E (P.bind (pa := pu) id fun ds ρ1 J F1 H1 s1 k1 E1 r1 P1 => by
    by_cases hc : chkE ρ1 vs = true ∧ ds.length ≤ sizeLine
    · rw [if_pos hc] at P1
      obtain ⟨hc, hz⟩ := hc
      cases hL : lcL vs g ft fe ds ρ1 with
      | none => rw [hL] at P1; exact P1.elim
      | some yr =>
        obtain ⟨fin, ρf⟩ := yr
        rw [hL] at P1
        intro D hD
        have hF1D : F1 D = none := E1.sub.free hD
        have h0D : b.H0 D = none := by
          cases q : b.H0 D with
          | none => rfl
          | some o => exact absurd hD (E1.live D (by rw [q]; simp))
        have ne0 : NotEx σ ρ1 D := fun i s hi _ e => E1.lives hi e hD
        refine ⟨fun i n H2 => n = ds.length - i ∧ i ≤ ds.length ∧ ∃ F2 ρc acc out ys, lcL vs g ft fe (ds.drop i) ρc = some (ys, ρf) ∧ fin = out ++ ys ∧ ER b F2 H2 σ ρc ∧ F2 D = none ∧ H2 D = some (.lst acc) ∧ NotEx σ ρc D ∧ RepL F2 acc out ∧ out.length ≤ i ∧
          Stp σ ρ1 F1 H1 ρc F2 H2 ∧ (pu = true → Same H1 H2) ∧ chkE ρc vs = true, ⟨ds.length, by simp, Nat.zero_le _, F1, ρ1, [], [], fin, by rw [List.drop_zero]; exact hL, rfl, E1.aside hF1D h0D ne0, hF1D, upd_same, ne0, .nil, Nat.le_refl _, ?_, fun _ => same_upd hD, hc⟩, ?_⟩
        · exact ⟨.refl _, fun c o h _ => same_upd hD c o h, fun _ _ _ => rfl, fun c h z => by
            by_cases e : c = D
            · subst e; exact h hD
            · rw [upd_ne e] at z; exact h z, fun _ h => h, fun _ t h => ⟨t, h⟩⟩
        · rintro i n H2 ⟨rfl, hi, F2, ρc, acc, out, ys, hl, hfin, E2, hF2, hH2, hne, hr, ho, s2, k2, hc2⟩
          have it := r1 F2 H2 s2.f E2.sub i
          by_cases hlt : i < ds.length
          · right
            have hd : ds[i]? = some ds[i] := List.getElem?_eq_getElem hlt
            obtain ⟨go, yl⟩ := it.1 _ hd
            have hdrop : ds.drop i = ds[i] :: ds.drop (i + 1) := List.drop_eq_getElem_cons hlt
            rw [hdrop] at hl
            unfold lcL at hl
            refine ⟨go, fun H3 => ∃ m', m' < ds.length - i ∧ m' = ds.length - (i + 1) ∧ i + 1 ≤ ds.length ∧ ∃ F2 ρc acc out ys, lcL vs g ft fe (ds.drop (i + 1)) ρc = some (ys, ρf) ∧ fin = out ++ ys ∧ ER b F2 H3 σ ρc ∧ F2 D = none ∧ H3 D = some (.lst acc) ∧ NotEx σ ρc D ∧ RepL F2 acc out ∧ out.length ≤ i + 1 ∧
              Stp σ ρ1 F1 H1 ρc F2 H3 ∧ (pu = true → Same H1 H3) ∧ chkE ρc vs = true, fun H3 ⟨m', h1, h2⟩ => ⟨m', h1, h2⟩, fun x H3 y => ?_⟩
            obtain ⟨e3, rx⟩ := yl x H3 y
            subst e3
            cases hg : g ds[i] (wipeE ρc vs) with
            | none => rw [hg] at hl; cases hl
            | some ρ2 =>
              rw [hg] at hl
              dsimp only at hl
              refine sg b (L2.wipe σ vs) H3 F2 (wipeE ρc vs) x ds[i] ρ2 _ (E2.wipe vs) rx hg fun σ2 B2 n2 E3 => ?_
              have hw : L2.wipe σ2 vs = L2.wipe σ vs := by
                rw [wipe_ext B2.len fun j hj' => B2.at_ j fun z => hj' (hj j z)]
                exact wipe_ext (wipe_length σ vs) fun j hj' => wipe_out hj'
              have ne3 : NotEx σ2 ρ2 D := n2 D (notEx_wipe hne)
              refine ⟨hw, st b σ2 H3 F2 ρ2 _ E3 ?_⟩
              have nextStep : ∀ (ρ5 : Env) (F5 H5 : Hp), Stp σ2 ρ2 F2 H3 ρ5 F5 H5 → ER b F5 H5 σ2 ρ5 → (ER b F5 H5 σ (restE ρc ρ5 vs) ∧ F5 D = none ∧ H5 D = some (.lst acc) ∧ NotEx σ (restE ρc ρ5 vs) D ∧ RepL F5 acc out ∧ Stp σ ρ1 F1 H1 (restE ρc ρ5 vs) F5 H5 ∧ chkE (restE ρc ρ5 vs) vs = true) := by
                intro ρ5 F5 H5 s5 E5
                have hl2 : ρc.length = ρ5.length := by
                  rw [E2.len, E5.len, ← wipe_length σ2 vs, hw, wipe_length]
                have nE : ∀ c, NotEx σ ρc c → NotEx σ2 ρ2 c := fun c h => n2 c (notEx_wipe h)
                refine ⟨E2.rest hc2 s5.f E5 hw, ?_, s5.h D _ hH2 ne3, notEx_rest hc2 hl2 hw (s5.ex D ne3), hr.mono s5.f, ?_, ?_⟩
                · rw [s5.n D (by rw [hH2]; simp) ne3]; exact hF2
                · refine s2.trans ⟨s5.f, fun c o h n => s5.h c o h (nE c n), fun c h n => s5.n c h (nE c n), s5.lv, fun c n => notEx_rest hc2 hl2 hw (s5.ex c (nE c n)), fun j t hj' => ?_⟩
                  by_cases hjv : j ∈ vs
                  · rw [restE_in hl2 hjv] at hj'; exact ⟨t, hj'⟩
                  · rw [restE_out hjv] at hj'
                    obtain ⟨u, hu⟩ := s5.df j t hj'
                    rw [sb _ _ _ hg j fun z => hjv (hj j z)] at hu
                    exact ⟨u, (wipeE_some hu).1⟩
                · refine List.all_eq_true.mpr fun v hv => ?_
                  rw [restE_in hl2 hv]
                  exact (List.all_eq_true.mp hc2) v hv
              cases hft : ft ρ2 with
              | err c ρ3 => rw [hft] at hl; cases hl
              | bad => rw [hft] at hl; cases hl
              | ok cb ρ3 =>
                rw [hft] at hl
                intro cv F4 H4 s4 k4 E4 rc
                cases (show cv = cb from rc)
                cases cb with
                | false =>
                  rw [if_neg Bool.false_ne_true]
                  dsimp only at hl
                  obtain ⟨g1, g2, g3, g4, g5, g6, g7⟩ := nextStep ρ3 F4 H4 s4 E4
                  exact ⟨ds.length - (i + 1), by omega, rfl, by omega, F4, _, acc, out, ys, hl, hfin, g1, g2, g3, g4, g5, by omega, g6, fun hp => (k2 hp).trans (k4 hp), g7⟩
                | true =>
                  rw [if_pos rfl]
                  dsimp only at hl
                  refine se b σ2 H4 F4 ρ3 _ E4 ?_
                  cases hfe : fe ρ3 with
                  | err c ρ4 => rw [hfe] at hl; cases hl
                  | bad => rw [hfe] at hl; cases hl
                  | ok dy ρ4 =>
                    rw [hfe] at hl
                    dsimp only at hl
                    cases hl5 : lcL vs g ft fe (ds.drop (i + 1)) (restE ρc ρ4 vs) with
                    | none => rw [hl5] at hl; cases hl
                    | some yr =>
                      obtain ⟨ys', ρe⟩ := yr
                      rw [hl5] at hl
                      cases hl
                      intro y F5 H5 s5 k5 E5 ry
                      obtain ⟨g1, g2, g3, g4, g5, g6, g7⟩ := nextStep ρ4 F5 H5 (s4.trans s5) E5
                      have hacc : acc.length < sizeLine := by rw [g5.length]; omega
                      refine ⟨acc, g3, hacc, ds.length - (i + 1), by omega, rfl, by omega, F5, _, acc ++ [y], out ++ [dy], ys', hl5, by rw [hfin, List.append_assoc] <;> rfl, g1.aside g2 h0D g4, g2, upd_same, g4, g5.append (.cons ry .nil), by rw [List.length_append] <;> (show out.length + 1 ≤ i + 1; omega), ?_, fun hp => ?_, g7⟩
                      · refine ⟨g6.f, fun c o h n => ?_, g6.n, fun c h z => ?_, g6.ex, g6.df⟩
                        · have : c ≠ D := fun z => by subst z; rw [hD] at h; cases h
                          rw [upd_ne this]; exact g6.h c o h n
                        · by_cases e : c = D
                          · subst e; exact h hD
                          · rw [upd_ne e] at z; exact g6.lv c h z
                      · intro c o h
                        have : c ≠ D := fun z => by subst z; rw [hD] at h; cases h
                        rw [upd_ne this]
                        exact k5 hp c o (k4 hp c o (k2 hp c o h))
          · left
            have e : i = ds.length := by omega
            subst e
            refine ⟨it.2 (Nat.le_refl _), ?_⟩
            rw [List.drop_length] at hl
            cases hl
            rw [List.append_nil] at hfin
            subst hfin
            refine P1 (.ref D) F2 H2 s2 k2 E2 ⟨D, rfl, ?_, hF2, .lst hH2 (by rw [hr.length]; exact Nat.le_trans ho hz) hr⟩
            cases q : H D with
            | none => rfl
            | some o => exact absurd hD (s1.lv D (by rw [q]; simp))
    · rw [if_neg hc] at P1; exact P1.elim)
theorem je_lc (hi : JI Γ pu iter fi) (hg : JG (Γ.blk scope) js tg g) (ht : JTs (Γ.blk scope) pu ifs ft) (he : JE (Γ.blk scope) .fro pu elt fe) (hb : blkC Γ.N Γ.sc scope own = true) (hj : ∀ j ∈ js, j ∈ own.map (·.2)) (hs : ∀ env x, foldedSetIterable iter env x = pure x) :
    JE Γ .own pu (.ListComp elt [⟨tg, iter, ifs, 0⟩] scope pos) (dLc (own.map (·.2)) fi g ft fe) := by
  obtain ⟨wi, si, pi⟩ := hi
  obtain ⟨nb, tg', sg, pg⟩ := hg
  obtain ⟨tt, st, pt⟩ := ht
  obtain ⟨te, se, pe⟩ := he
  refine ⟨fun W => tLc (wi W) tg' (tt WF) (te WF) (own.map (·.2)), fun W => sem_lc hj (si W) nb sg (st WF) (se WF), fun X W h c => ?_⟩
  have hbk : BlkOk X.N X.env.scope scope own := by rw [h.N, h.sc]; exact blkOk_by hb
  exact pe_lc h.calm (by rw [h.N]; exact h.nd) (pi X W _ h c) hbk (fun s H C cl fp => pg _ (h.blk scope s H C cl fp)) (fun s H C cl fp => pt _ WF (h.blk scope s H C cl fp) cond_blk) (fun s H C cl fp => pe _ WF (h.blk scope s H C cl fp) cond_blk) (hs _)
end
end PD
namespace PD
open PySem PySem.Spec L2

/-! ### statements -/
inductive RS where
  | nx (ρ : Env) | rt (d : D) (ρ : Env) | bk (ρ : Env) | ct (ρ : Env) | err (c : Str) (ρ : Env) | bad
def RetR (rm : Md) (b : Bs) (F H : Hp) (v : V) (d : D) : Prop :=
  match rm with
  | .fro => Rep F v d
  | .own => ∃ p, v = .ref p ∧ b.H0 p = none ∧ F p = none ∧ Top F H v d
  | .top => False
def PostS (mg : Str → Option Value) (rm : Md) (b : Bs) (W : WX) (D : Ends) : RS → Prop
  | .nx ρ => ∀ σ F H, ER b F H σ ρ → D.nx σ H
  | .rt d ρ => ∀ v σ F H, ER b F H σ ρ → RetR rm b F H v d → D.rt v H
  | .bk ρ => ∀ σ F H, ER b F H σ ρ → D.bk σ H
  | .ct ρ => ∀ σ F H, ER b F H σ ρ → D.ct σ H
  | .err c ρ => ∀ cls σ F H, mg c = some cls → ER b F H σ ρ → W cls none σ H
  | .bad => False
def SemS (mg : Str → Option Value) (rm : Md) (W : WX) (ts : TS) (f : Env → RS) : Prop :=
  ∀ b σ H F ρ D, ER b F H σ ρ → PostS mg rm b W D (f ρ) → ts D σ H
def JS (Γ : Gam) (rm : Md) (st : Stmt) (f : Env → RS) : Prop :=
  ∃ ts : WX → TS, (∀ W, SemS Γ.mg rm W (ts W) f) ∧ ∀ X W, Γ.Has X → Cond X W → PS X st (ts W)
def JSs (Γ : Gam) (rm : Md) (st : List Stmt) (f : Env → RS) : Prop :=
  ∃ ts : WX → TS, (∀ W, SemS Γ.mg rm W (ts W) f) ∧ ∀ X W, Γ.Has X → Cond X W → PSs X st (ts W)
def sNil : Env → RS := fun ρ => .nx ρ
def sSeq (f g : Env → RS) : Env → RS := fun ρ => match f ρ with
  | .nx ρ1 => g ρ1
  | o => o
def sE {α : Type} (x : Out α) (k : α → Env → RS) : RS := match x with
  | .ok a ρ => k a ρ
  | .err c ρ => .err c ρ
  | .bad => .bad
section
variable {Γ : Gam} {rm m ma : Md} {pu pb : Bool} {W : WX} {pos pos' : Pos} {a e : Expr} {fa fb : Env → Out D} {x : Str} {p : Pos} {st : Stmt} {sts body body2 : List Stmt} {f g f1 f2 : Env → RS} {ft : Env → Out Bool} {mg : Str → Option Value} {b : Bs} {F H : Hp} {σ : L2.St} {ρ : Env}
theorem PostS.bind {α β : Type} {R : RV α β} {y : Out α} {k : α → Env → RS} {D : Ends} {Q : β → Hp → Prop} (P : PostS mg rm b W D (sE y k))
    (h : ∀ a ρ1 v F1 H1, Stp σ ρ F H ρ1 F1 H1 → (pu = true → Same H H1) → ER b F1 H1 σ ρ1 → R H F1 H1 v a → PostS mg rm b W D (k a ρ1) → Q v H1) : Post mg b pu F H σ ρ W R Q y := by
  cases y with
  | ok a ρ1 => exact fun v F1 H1 s k1 E r => h a ρ1 v F1 H1 s k1 E r P
  | err c ρ1 => exact fun cls F1 H1 hm hf E => P cls σ F1 H1 hm E
  | bad => exact P
theorem jss_nil : JSs Γ rm [] sNil := ⟨fun _ => tNext, fun W b σ H F ρ D E P => P σ F H E, fun _ _ _ _ => pss_nil⟩
theorem jss_cons (h1 : JS Γ rm st f) (h2 : JSs Γ rm sts g) : JSs Γ rm (st :: sts) (sSeq f g) := by
  obtain ⟨t, s, p⟩ := h1
  obtain ⟨u, s2, p2⟩ := h2
  refine ⟨fun W => tSeq (t W) (u W), fun W b σ H F ρ D E P => s W b σ H F ρ _ E ?_, fun X W h c => pss_cons (p X W h c) (p2 X W h c)⟩
  unfold sSeq at P
  cases q : f ρ with
  | nx ρ1 => rw [q] at P; exact fun σ' F' H' E' => s2 W b σ' H' F' ρ1 D E' P
  | rt d ρ1 => rw [q] at P; exact P
  | bk ρ1 => rw [q] at P; exact P
  | ct ρ1 => rw [q] at P; exact P
  | err c ρ1 => rw [q] at P; exact P
  | bad => rw [q] at P; exact P
theorem jss_one (h1 : JS Γ rm st f) : JSs Γ rm [st] f := let ⟨t, s, p⟩ := h1; ⟨t, s, fun X W h c => pss_one (p X W h c)⟩
theorem js_pass : JS Γ rm (.Pass pos) sNil := ⟨fun _ => tNext, fun W b σ H F ρ D E P => P σ F H E, fun _ _ _ _ => ps_pass⟩
theorem js_break : JS Γ rm (.Break pos) (fun ρ => .bk ρ) := ⟨fun _ => tBreak, fun W b σ H F ρ D E P => P σ F H E, fun _ _ _ _ => ps_break⟩
theorem js_continue : JS Γ rm (.Continue pos) (fun ρ => .ct ρ) := ⟨fun _ => tCont, fun W b σ H F ρ D E P => P σ F H E, fun _ _ _ _ => ps_continue⟩
/-! x = e -/
def sSet (i : Nat) (fa : Env → Out D) : Env → RS := fun ρ => sE (fa ρ) fun d ρ1 => if i < ρ1.length then .nx (ρ1.set i (some (.fro d))) else .bad
def sSetO (i : Nat) (fa : Env → Out D) : Env → RS := fun ρ => sE (fa ρ) fun d ρ1 => if i < ρ1.length then .nx (ρ1.set i (some (.own d))) else .bad
theorem VRg.fresh {Hs : Hp} {v : V} {d : D} {ρ' : Env} {F' H' : Hp} (E : ER b F H σ ρ) (s : Stp σ ρ F H ρ' F' H') (h : VRg .own H F' H' v d) : ∃ p, v = .ref p ∧ F' p = none ∧ b.H0 p = none ∧ Top F' H' v d ∧ ∀ (j : Nat) t, ρ'[j]? = some (some t) → σ[j]? ≠ some (some (.ref p)) := by
  obtain ⟨p, rfl, n, nf, t⟩ := h
  refine ⟨p, rfl, nf, ?_, t, fun j u hj e => ?_⟩
  · cases q : b.H0 p with
    | none => rfl
    | some o => exact absurd n (E.live p (by rw [q]; simp))
  · obtain ⟨u', hu'⟩ := s.df j u hj
    exact E.lives hu' e n
theorem sem_set {te : TE} {i : Nat} (h : Sem mg pu W (VRg .fro) te fa) : SemS mg rm W (tAsg te (gName i)) (sSet i fa) := fun b σ H F ρ D E P =>
  h b σ H F ρ _ E (PostS.bind P fun d ρ1 v F1 H1 s1 k1 E1 r1 P1 => by
    split at P1
    · exact P1 _ _ _ (E1.setF i r1)
    · exact P1.elim)
theorem sem_setO {te : TE} {i : Nat} (h : Sem mg pu W (VRg .own) te fa) : SemS mg rm W (tAsg te (gName i)) (sSetO i fa) := fun b σ H F ρ D E P =>
  h b σ H F ρ _ E (PostS.bind P fun d ρ1 v F1 H1 s1 k1 E1 r1 P1 => by
    split at P1
    · obtain ⟨p, rfl, nf, h0, t, hs⟩ := VRg.fresh (Hs := H) E s1 r1
      exact P1 _ _ _ (E1.setO i nf h0 t hs)
    · exact P1.elim)
theorem js_set (i : Nat) (h : JE Γ .fro pu e fa) (hi : Γ.N[i]? = some x) (hx : Loc Γ.sc x) (hs : ∀ env line, swapsWith e (some (.Name x pos')) line env = pure false) (hf : Γ.fn x = true ∨ Γ.sc.names.lookup x = some .local) : JS Γ rm (.Assign [.Name x pos'] e pos) (sSet i fa) := by
  obtain ⟨t, s, p⟩ := h
  exact ⟨fun W => tAsg (t W) (gName i), fun W => sem_set (s W), fun X W g c => ps_set (by rw [g.N]; exact g.nd) (by rw [g.N]; exact hi) (by rw [g.sc]; exact hx) (p X W g c) (hs _ _) (by rw [g.fn, g.sc]; exact hf)⟩
theorem js_setO (i : Nat) (h : JE Γ .own pu e fa) (hi : Γ.N[i]? = some x) (hx : Loc Γ.sc x) (hs : ∀ env line, swapsWith e (some (.Name x pos')) line env = pure false) (hf : Γ.fn x = true ∨ Γ.sc.names.lookup x = some .local) : JS Γ rm (.Assign [.Name x pos'] e pos) (sSetO i fa) := by
  obtain ⟨t, s, p⟩ := h
  exact ⟨fun W => tAsg (t W) (gName i), fun W => sem_setO (s W), fun X W g c => ps_set (by rw [g.N]; exact g.nd) (by rw [g.N]; exact hi) (by rw [g.sc]; exact hx) (p X W g c) (hs _ _) (by rw [g.fn, g.sc]; exact hf)⟩
/-! x = [..], x a cell; x a local -/
theorem swaps_cell {elt : Expr} {gens : List Comprehension} {scope : Scope} {line : Nat} {env : PySem.Env} (h : env.scope.names.lookup x = some .cell) : swapsWith (.ListComp elt gens scope pos) (some (.Name x pos')) line env = pure false := by
  have h' : env.kindOf x = some .cell := h
  show pure (env.blockKind == .function && env.kindOf x == some .local && _ && _) = _
  rw [h']
  have : (some NameKind.cell == some NameKind.local) = false := by decide
  rw [this]
  simp
theorem js_setC (i : Nat) {elt : Expr} {gens : List Comprehension} {scope : Scope} (h : JE Γ .fro pu (.ListComp elt gens scope pos) fa) (hi : Γ.N[i]? = some x) (hx : Γ.sc.names.lookup x = some .cell) (hf : Γ.fn x = true) : JS Γ rm (.Assign [.Name x pos'] (.ListComp elt gens scope pos) p) (sSet i fa) := by
  obtain ⟨t, s, pe⟩ := h
  exact ⟨fun W => tAsg (t W) (gName i), fun W => sem_set (s W), fun X W g c => ps_set (by rw [g.N]; exact g.nd) (by rw [g.N]; exact hi) (by rw [g.sc]; exact .inr hx) (pe X W g c) (swaps_cell (by rw [g.sc]; exact hx)) (.inl (by rw [g.fn]; exact hf))⟩
theorem js_setCO (i : Nat) {elt : Expr} {gens : List Comprehension} {scope : Scope} (h : JE Γ .own pu (.ListComp elt gens scope pos) fa) (hi : Γ.N[i]? = some x) (hx : Γ.sc.names.lookup x = some .cell) (hf : Γ.fn x = true) : JS Γ rm (.Assign [.Name x pos'] (.ListComp elt gens scope pos) p) (sSetO i fa) := by
  obtain ⟨t, s, pe⟩ := h
  exact ⟨fun W => tAsg (t W) (gName i), fun W => sem_setO (s W), fun X W g c => ps_set (by rw [g.N]; exact g.nd) (by rw [g.N]; exact hi) (by rw [g.sc]; exact .inr hx) (pe X W g c) (swaps_cell (by rw [g.sc]; exact hx)) (.inl (by rw [g.fn]; exact hf))⟩
theorem sem_own_fro {te : TE} (h : Sem mg pu W (VRg .own) te fa) : Sem mg pu W (VRg .fro) te fa := fun b σ H F ρ Q E P => h b σ H F ρ Q E (by
  revert P
  cases fa ρ with
  | ok d ρ' =>
    intro P v F' H' s k E' r
    obtain ⟨F'', s', E'', r', _⟩ := VRg.freeze E s E' r
    exact P v F'' H' s' k E'' r'
  | err c ρ' => exact fun P => P
  | bad => exact fun P => P)
section
variable {elt tg iter : Expr} {fi : Env → Out (List D)} {fe : Env → Out D} {gt : D → Env → Option Env} {ifs : List Expr} {scope : Scope} {own : List (Str × Nat)} {js : List Nat} {py spos : Pos}
theorem js_setLO (i : Nat) (hI : JI Γ pu iter fi) (hg : JG (Γ.blk scope) js tg gt) (ht : JTs (Γ.blk scope) pu ifs ft) (he : JE (Γ.blk scope) .fro pu elt fe) (hb : blkC Γ.N Γ.sc scope own = true) (hj : ∀ j ∈ js, j ∈ own.map (·.2)) (hs : ∀ env x, foldedSetIterable iter env x = pure x)
    (hi : Γ.N[i]? = some x) (hx : Γ.sc.names.lookup x = some .local) (hk : Γ.sc.kind = .function) (hl : (py.line == pos.line) = true) (ha : (scope.names.any fun (n, k) => n == x && (k == .local || k == .cell)) = false) :
    JS Γ rm (.Assign [.Name x py] (.ListComp elt [⟨tg, iter, ifs, 0⟩] scope pos) spos) (sSetO i (dLc (own.map (·.2)) fi gt ft fe)) := by
  obtain ⟨wi, si, pi⟩ := hI
  obtain ⟨nb, tg', sg, pg⟩ := hg
  obtain ⟨tt, st, pt⟩ := ht
  obtain ⟨te, se, pe⟩ := he
  refine ⟨fun W => tAsg (tLc (wi W) tg' (tt WF) (te WF) (own.map (·.2))) (gName i), fun W => sem_setO (sem_lc hj (si W) nb sg (st WF) (se WF)), fun X W h c => ?_⟩
  have hbk : BlkOk X.N X.env.scope scope own := by rw [h.N, h.sc]; exact blkOk_by hb
  exact ps_setLc h.calm (by rw [h.N]; exact h.nd) (by rw [h.N]; exact hi) (by rw [h.sc]; exact hx) (sw_true (by rw [h.sc]; exact hk) (by rw [h.sc]; exact hx) hl ha) (pi X W _ h c) hbk (fun s H C cl fp => pg _ (h.blk scope s H C cl fp)) (fun s H C cl fp => pt _ WF (h.blk scope s H C cl fp) cond_blk) (fun s H C cl fp => pe _ WF (h.blk scope s H C cl fp) cond_blk) (hs _)
theorem js_setL (i : Nat) (hI : JI Γ pu iter fi) (hg : JG (Γ.blk scope) js tg gt) (ht : JTs (Γ.blk scope) pu ifs ft) (he : JE (Γ.blk scope) .fro pu elt fe) (hb : blkC Γ.N Γ.sc scope own = true) (hj : ∀ j ∈ js, j ∈ own.map (·.2)) (hs : ∀ env x, foldedSetIterable iter env x = pure x)
    (hi : Γ.N[i]? = some x) (hx : Γ.sc.names.lookup x = some .local) (hk : Γ.sc.kind = .function) (hl : (py.line == pos.line) = true) (ha : (scope.names.any fun (n, k) => n == x && (k == .local || k == .cell)) = false) :
    JS Γ rm (.Assign [.Name x py] (.ListComp elt [⟨tg, iter, ifs, 0⟩] scope pos) spos) (sSet i (dLc (own.map (·.2)) fi gt ft fe)) := by
  obtain ⟨wi, si, pi⟩ := hI
  obtain ⟨nb, tg', sg, pg⟩ := hg
  obtain ⟨tt, st, pt⟩ := ht
  obtain ⟨te, se, pe⟩ := he
  refine ⟨fun W => tAsg (tLc (wi W) tg' (tt WF) (te WF) (own.map (·.2))) (gName i), fun W => sem_set (sem_own_fro (sem_lc hj (si W) nb sg (st WF) (se WF))), fun X W h c => ?_⟩
  have hbk : BlkOk X.N X.env.scope scope own := by rw [h.N, h.sc]; exact blkOk_by hb
  exact ps_setLc h.calm (by rw [h.N]; exact h.nd) (by rw [h.N]; exact hi) (by rw [h.sc]; exact hx) (sw_true (by rw [h.sc]; exact hk) (by rw [h.sc]; exact hx) hl ha) (pi X W _ h c) hbk (fun s H C cl fp => pg _ (h.blk scope s H C cl fp)) (fun s H C cl fp => pt _ WF (h.blk scope s H C cl fp) cond_blk) (fun s H C cl fp => pe _ WF (h.blk scope s H C cl fp) cond_blk) (hs _)
end
/-! a, b = e -/
def sAsg (fa : Env → Out D) (g : D → Env → Option Env) : Env → RS := fun ρ => sE (fa ρ) fun d ρ1 => match g d ρ1 with | some ρ2 => .nx ρ2 | none => .bad
theorem js_asg {js : List Nat} {tg : Expr} {gt : D → Env → Option Env} (h : JE Γ .fro pu e fa) (hg : JG Γ js tg gt) (hs : ∀ env line, swapsWithSole [tg] e line env = pure false) (hw : ∀ env, swappedStores [tg] e env = pure none) (h1 : ∀ env, (assignEach [tg] env).map (·.2) = [assign tg env]) : JS Γ rm (.Assign [tg] e pos) (sAsg fa gt) := by
  obtain ⟨t, s, p⟩ := h
  obtain ⟨_, u, sg, pg⟩ := hg
  refine ⟨fun W => tAsg (t W) u, fun W b σ H F ρ D E P => ?_, fun X W g c => ps_asg (p X W g c) (pg X g) (hs _ _) (hw _) (h1 _)⟩
  refine s W b σ H F ρ _ E (PostS.bind P fun d ρ1 v F1 H1 s1 k1 E1 r1 P1 => ?_)
  cases q : gt d ρ1 with
  | none => rw [q] at P1; exact P1.elim
  | some ρ2 => rw [q] at P1; exact sg b σ H1 F1 ρ1 v d ρ2 _ E1 r1 q fun σ' _ _ E' => P1 σ' F1 H1 E'
/-! e; return e -/
def sDrop (fa : Env → Out D) : Env → RS := fun ρ => sE (fa ρ) fun _ ρ1 => .nx ρ1
def sRet (fa : Env → Out D) : Env → RS := fun ρ => sE (fa ρ) fun d ρ1 => .rt d ρ1
theorem js_expr (h : JE Γ m pu e fa) (hs : ∀ env line, swapsWith e none line env = pure false) : JS Γ rm (.Expr e pos) (sDrop fa) := by
  obtain ⟨t, s, p⟩ := h
  exact ⟨fun W => tDrop (t W), fun W b σ H F ρ D E P => s W b σ H F ρ _ E (PostS.bind P fun d ρ1 v F1 H1 s1 k1 E1 r1 P1 => P1 σ F1 H1 E1), fun X W g c => ps_expr (p X W g c) (hs _ _)⟩
theorem js_ret (h : JE Γ .fro pu e fa) : JS Γ .fro (.Return (some e) pos) (sRet fa) := by
  obtain ⟨t, s, p⟩ := h
  exact ⟨fun W => tRet (t W), fun W b σ H F ρ D E P => s W b σ H F ρ _ E (PostS.bind P fun d ρ1 v F1 H1 s1 k1 E1 r1 P1 => P1 v σ F1 H1 E1 r1), fun X W g c => ps_ret (p X W g c)⟩
theorem js_retO (h : JE Γ .own pu e fa) : JS Γ .own (.Return (some e) pos) (sRet fa) := by
  obtain ⟨t, s, p⟩ := h
  exact ⟨fun W => tRet (t W), fun W b σ H F ρ D E P => s W b σ H F ρ _ E (PostS.bind P fun d ρ1 v F1 H1 s1 k1 E1 r1 P1 => by
    obtain ⟨p, rfl, nf, h0, t, _⟩ := VRg.fresh (Hs := H) E s1 r1
    exact P1 _ σ F1 H1 E1 ⟨p, rfl, h0, nf, t⟩), fun X W g c => ps_ret (p X W g c)⟩
/-- return x, x an own slot -/
def sRetV (i : Nat) : Env → RS := fun ρ => match ρ[i]? with
  | some (some (.own d)) => .rt d ρ
  | _ => .bad
theorem js_retV (i : Nat) (hN : Γ.N[i]? = some x) (hv : Vis Γ.sc x) (hd : (x == ("__debug__" : Str)) = false) (hcd : (x == ("__classdict__" : Str)) = false) : JS Γ .own (.Return (some (.Name x p)) pos) (sRetV i) := by
  refine ⟨fun _ => tRet (tVar i), fun W b σ H F ρ D E P => ?_, fun X W h c => ps_ret (pe_var (by rw [h.N]; exact hN) (by rw [h.sc]; exact hv) hd hcd)⟩
  unfold sRetV at P
  split at P
  · rename_i d hi
    obtain ⟨v, h1, p, rfl, n, h0, t⟩ := E.slot i _ hi
    exact ⟨_, h1, P _ σ F H E ⟨p, rfl, h0, n, t⟩⟩
  · exact P.elim
theorem js_retN : JS Γ .fro (.Return none pos) (fun ρ => .rt .non ρ) := ⟨fun _ => tRetN, fun W b σ H F ρ D E P => P .non σ F H E .non, fun X W g c => ps_retN⟩
/-! if -/
def sIf (ft : Env → Out Bool) (f g : Env → RS) : Env → RS := fun ρ => sE (ft ρ) fun c ρ1 => if c = true then f ρ1 else g ρ1
theorem js_if {c : Expr} (hc : JT Γ pu c ft) (h1 : JSs Γ rm body f) (h2 : JSs Γ rm body2 g) : JS Γ rm (.If c body body2 pos) (sIf ft f g) := by
  obtain ⟨t, s, p⟩ := hc
  obtain ⟨u, s1, p1⟩ := h1
  obtain ⟨w, s2, p2⟩ := h2
  refine ⟨fun W => tIfS (t W) (u W) (w W), fun W b σ H F ρ D E P => ?_, fun X W g c => ps_if (p X W g c) (p1 X W g c) (p2 X W g c)⟩
  refine s W b σ H F ρ _ E (PostS.bind P fun d ρ1 v F1 H1 st1 k1 E1 r1 P1 => ?_)
  cases (show v = d from r1)
  cases d with
  | true => rw [if_pos rfl] at P1 ⊢; exact s1 W b σ H1 F1 ρ1 D E1 P1
  | false => rw [if_neg Bool.false_ne_true] at P1 ⊢; exact s2 W b σ H1 F1 ρ1 D E1 P1
/-! for -/
def Bs.at (b : Bs) (F : Hp) : Bs := { b with F0 := F }
theorem ER.rebase (E : ER b F H σ ρ) : ER (b.at F) F H σ ρ := ⟨E.sub, E.len, fun i s h => by
    obtain ⟨v, h1, h2⟩ := E.slot i s h
    exact ⟨v, h1, by cases s <;> exact h2⟩, E.sep, E.base, E.live, .refl _, fun _ _ => rfl⟩
theorem ER.unbase {F' H' : Hp} {σ' : L2.St} {ρ' : Env} (E' : ER (b.at F) F' H' σ' ρ') (E : ER b F H σ ρ) : ER b F' H' σ' ρ' := ⟨E'.sub, E'.len, fun i s h => by
    obtain ⟨v, h1, h2⟩ := E'.slot i s h
    exact ⟨v, h1, by cases s <;> exact h2⟩, E'.sep, E'.base, E'.live, E.fro.trans E'.fro, fun c hc => by rw [E'.new c hc]; exact E.new c hc⟩
def forL (g : D → Env → Option Env) (f : Env → RS) : List D → Env → RS
  | [], ρ => .nx ρ
  | d :: r, ρ => match g d ρ with
    | none => .bad
    | some ρ1 => match f ρ1 with
      | .nx ρ2 => forL g f r ρ2
      | .ct ρ2 => forL g f r ρ2
      | .bk ρ2 => .nx ρ2
      | o => o
def sFor (fi : Env → Out (List D)) (g : D → Env → Option Env) (f : Env → RS) : Env → RS := fun ρ => sE (fi ρ) fun ds ρ1 => forL g f ds ρ1
theorem js_for {iter tg : Expr} {js : List Nat} {fi : Env → Out (List D)} {gt : D → Env → Option Env} (hi : JI Γ pu iter fi) (hg : JG Γ js tg gt) (hb : JSs Γ rm body f) (hs : ∀ env x, foldedSetIterable iter env x = pure x) : JS Γ rm (.For tg iter body [] pos) (sFor fi gt f) := by
  obtain ⟨wi, si, pi⟩ := hi
  obtain ⟨_, u, sg, pg⟩ := hg
  obtain ⟨tb, sb, pb⟩ := hb
  refine ⟨fun W => tFor (wi W) u (tb W), fun W b σ H F ρ D E P => ?_, fun X W g c => ps_for c.po g.calm (pi X W _ g c) (pg X g) (pb X W g c) (hs _)⟩
  refine si W b σ H F ρ _ E (PostS.bind P fun ds ρ1 J F1 H1 s1 k1 E1 r1 P1 => ?_)
  refine ⟨fun i n σ2 H2 => n = ds.length - i ∧ i ≤ ds.length ∧ ∃ F2 ρ2, ER b F2 H2 σ2 ρ2 ∧ Same F1 F2 ∧ PostS Γ.mg rm b W D (forL gt f (ds.drop i) ρ2), ⟨ds.length, by simp, Nat.zero_le _, F1, ρ1, E1, .refl _, by rw [List.drop_zero]; exact P1⟩, ?_⟩
  rintro i n σ2 H2 ⟨rfl, hle, F2, ρ2, E2, kF, P2⟩
  have it := r1 F2 H2 kF E2.sub i
  by_cases hlt : i < ds.length
  · right
    have hd : ds[i]? = some ds[i] := List.getElem?_eq_getElem hlt
    obtain ⟨go, yl⟩ := it.1 _ hd
    rw [List.drop_eq_getElem_cons hlt] at P2
    unfold forL at P2
    refine ⟨go, fun σ3 H3 => ∃ F3 ρ3, ER b F3 H3 σ3 ρ3 ∧ Same F1 F3 ∧ PostS Γ.mg rm b W D (forL gt f (ds.drop (i + 1)) ρ3), fun σ3 H3 ⟨F3, ρ3, h1, h2, h3⟩ => ⟨ds.length - (i + 1), by omega, rfl, by omega, F3, ρ3, h1, h2, h3⟩, fun x H3 y => ?_⟩
    obtain ⟨e3, rx⟩ := yl x H3 y
    subst e3
    cases hg : gt ds[i] ρ2 with
    | none => rw [hg] at P2; exact P2.elim
    | some ρ3 =>
      rw [hg] at P2
      dsimp only at P2
      refine sg b σ2 H3 F2 ρ2 x ds[i] ρ3 _ E2 rx hg fun σ3 _ _ E3 => ?_
      refine sb W (b.at F2) σ3 H3 F2 ρ3 _ E3.rebase ?_
      cases hf : f ρ3 with
      | nx ρ4 => rw [hf] at P2; exact fun σ4 F4 H4 E4 => ⟨F4, ρ4, E4.unbase E3, kF.trans E4.fro, P2⟩
      | ct ρ4 => rw [hf] at P2; exact fun σ4 F4 H4 E4 => ⟨F4, ρ4, E4.unbase E3, kF.trans E4.fro, P2⟩
      | bk ρ4 => rw [hf] at P2; exact fun σ4 F4 H4 E4 => P2 σ4 F4 H4 (E4.unbase E3)
      | rt d ρ4 => rw [hf] at P2; exact fun v σ4 F4 H4 E4 r4 => P2 v σ4 F4 H4 (E4.unbase E3) (by cases rm <;> exact r4)
      | err c ρ4 => rw [hf] at P2; exact fun cls σ4 F4 H4 hm E4 => P2 cls σ4 F4 H4 hm (E4.unbase E3)
      | bad => rw [hf] at P2; exact P2
  · left
    have e : i = ds.length := by omega
    subst e
    rw [List.drop_length] at P2
    exact ⟨it.2 (Nat.le_refl _), P2 σ2 F2 H2 E2⟩
/-! while -/
def whileL (ft : Env → Out Bool) (f : Env → RS) : Nat → Env → RS
  | 0, _ => .bad
  | n + 1, ρ => sE (ft ρ) fun c ρ1 => if c = true then (match f ρ1 with
    | .nx ρ2 => whileL ft f n ρ2
    | .ct ρ2 => whileL ft f n ρ2
    | .bk ρ2 => .nx ρ2
    | o => o) else .nx ρ1
def sWhile (n : Nat) (ft : Env → Out Bool) (f : Env → RS) : Env → RS := whileL ft f n
theorem js_while (n : Nat) {c : Expr} (hc : JT Γ pu c ft) (hb : JSs Γ rm body f) : JS Γ rm (.While c body [] pos) (sWhile n ft f) := by
  obtain ⟨t, s, p⟩ := hc
  obtain ⟨tb, sb, pb⟩ := hb
  refine ⟨fun W => tWhile (t W) (tb W), fun W b σ H F ρ D E P => ?_, fun X W g c => ps_while c.po (p X W g c) (pb X W g c)⟩
  refine ⟨fun k σ2 H2 => ∃ F2 ρ2, ER b F2 H2 σ2 ρ2 ∧ PostS Γ.mg rm b W D (whileL ft f k ρ2), ⟨n, F, ρ, E, P⟩, ?_⟩
  rintro k σ2 H2 ⟨F2, ρ2, E2, P2⟩
  cases k with
  | zero => exact P2.elim
  | succ k =>
    unfold whileL at P2
    refine s W b σ2 H2 F2 ρ2 _ E2 (PostS.bind P2 fun d ρ3 v F3 H3 s3 k3 E3 r3 P3 => ?_)
    cases (show v = d from r3)
    cases d with
    | true =>
      rw [if_pos rfl] at P3 ⊢
      refine ⟨fun σ4 H4 => ∃ F4 ρ4, ER b F4 H4 σ4 ρ4 ∧ PostS Γ.mg rm b W D (whileL ft f k ρ4), fun σ4 H4 h => ⟨k, Nat.lt_succ_self k, h⟩, ?_⟩
      refine sb W b σ2 H3 F3 ρ3 _ E3 ?_
      cases hf : f ρ3 with
      | nx ρ4 => rw [hf] at P3; exact fun σ4 F4 H4 E4 => ⟨F4, ρ4, E4, P3⟩
      | ct ρ4 => rw [hf] at P3; exact fun σ4 F4 H4 E4 => ⟨F4, ρ4, E4, P3⟩
      | bk ρ4 => rw [hf] at P3; exact P3
      | rt d ρ4 => rw [hf] at P3; exact P3
      | err c ρ4 => rw [hf] at P3; exact P3
      | bad => rw [hf] at P3; exact P3
    | false => rw [if_neg Bool.false_ne_true] at P3 ⊢; exact P3 σ2 F3 H3 E3
/-! raise X(..) -/
structure ExcOk (K : PySem.W.Frag) (mg : Str → Option Value) (x : Str) : Prop where
  ex : ∃ C, mg x = some (.ref C) ∧ PySem.W.excIn K C [.type "ValueError", .type "Exception", .type "BaseException", .type "object"] "ValueError.__new__" = true ∧ PySem.W.keepIn K (.ref C) = true ∧ PySem.W.subIn K (.ref C) (.type "BaseException") = some true ∧ PySem.W.typeIn K (.ref C) = some (.type "type")
def sRaise (c : Str) (fs : Env → Out (List D)) : Env → RS := fun ρ => sE (fs ρ) fun ds ρ1 => if ds.length ≤ sizeLine then .err c ρ1 else .bad
theorem VRgL.len {Hs F H : Hp} : ∀ {v : List V} {d : List D}, VRgL m Hs F H v d → v.length = d.length
  | _, _, .nil => rfl
  | _, _, .cons _ r => by rw [List.length_cons, List.length_cons, VRgL.len r]
theorem js_raise {es : List Expr} {fs : Env → Out (List D)} (hx : ExcOk Γ.K Γ.mg x) (hg : Γ.sc.names.lookup x = some .globalImplicit) (hd : (x == ("__debug__" : Str)) = false) (ha : JA Γ m pu (e :: es) fs)
    (he : ∀ env, starEach (e :: es) env = (false, eval e env) :: starEach es env) (hpl : ∀ env, (backTo pos (starEach es env)).any (·.1) = false) : JS Γ rm (.Raise (some (.Call (.Name x p) (e :: es) [] pos)) none pos') (sRaise x fs) := by
  obtain ⟨C, hm, hX, hK, hS, hT⟩ := hx.ex
  obtain ⟨t, s, pa⟩ := ha
  refine ⟨fun W => fun D σ H => t W σ H fun vs H1 => vs.length ≤ sizeLine ∧ W (.ref C) none σ H1, fun W b σ H F ρ D E P => ?_, fun X W g c => ?_⟩
  · refine s W b σ H F ρ _ E (PostS.bind P fun ds ρ1 v F1 H1 s1 k1 E1 r1 P1 => ?_)
    split at P1
    · rename_i hl
      exact ⟨by rw [r1.len]; exact hl, P1 _ σ F1 H1 hm E1⟩
    · exact P1.elim
  · exact ps_raise g.calm c.tk (pmk_ownA (PySem.F.excBase_ValueError) (by rw [g.K]; exact hX) (by rw [g.mg]; exact hm) (by rw [g.K]; exact hK) (raises_own (by rw [g.K]; exact hS) (by rw [g.K]; exact hT)) (show X.env.scope.names.lookup x = some .globalImplicit by rw [g.sc]; exact hg) (pa X W g c) hd (he _) (hpl _))
/-! changes of an own list, an own dict -/
def slotD (ρ : Env) (i : Nat) : Option D := match ρ[i]? with
  | some (some (.own d)) => some d
  | some (some (.arg d)) => some d
  | _ => none
def putSl (ρ : Env) (i : Nat) (d : D) : Env := match ρ[i]? with
  | some (some (.arg _)) => ρ.set i (some (.arg d))
  | _ => ρ.set i (some (.own d))
theorem ER.slotX (E : ER b F H σ ρ) {i : Nat} {d : D} (h : slotD ρ i = some d) : ∃ p s, ρ[i]? = some (some s) ∧ s.ex = true ∧ σ[i]? = some (some (.ref p)) ∧ F p = none ∧ Top F H (.ref p) d ∧ ∀ o d', Top F (upd H p o) (.ref p) d' → ER b F (upd H p o) σ (putSl ρ i d') := by
  unfold slotD at h
  split at h
  · rename_i d0 hi
    cases h
    obtain ⟨v, h1, p, rfl, n, h0, t⟩ := E.slot i _ hi
    refine ⟨p, _, hi, rfl, h1, n, t, fun o d' t' => ?_⟩
    unfold putSl
    rw [hi]
    exact E.write hi rfl h1 t'
  · rename_i d0 hi
    cases h
    obtain ⟨v, h1, p, rfl, n, h0, t⟩ := E.slot i _ hi
    refine ⟨p, _, hi, rfl, h1, n, t, fun o d' t' => ?_⟩
    unfold putSl
    rw [hi]
    exact E.write hi rfl h1 t'
  · cases h
def sApp (i : Nat) (fa : Env → Out D) : Env → RS := fun ρ => match slotD ρ i with
  | some (.lst _) => sE (fa ρ) fun d ρ1 => match slotD ρ1 i with
    | some (.lst l) => if l.length < sizeLine then .nx (putSl ρ1 i (.lst (l ++ [d]))) else .bad
    | _ => .bad
  | _ => .bad
theorem js_append (i : Nat) {apos cpos pn : Pos} (hN : Γ.N[i]? = some x) (hv : Vis Γ.sc x) (hd : (x == ("__debug__" : Str)) = false) (hcd : (x == ("__classdict__" : Str)) = false) (h : JE Γ .fro pu e fa)
    (hbase : ∀ env, attributeBase (.Name x pn) "append" env (eval (.Name x pn) env) = eval (.Name x pn) env)
    (hfew : ∀ env, ((backTo cpos (starEach [e] env)).all (fun x => !x.1) && (backToKw cpos (keywordEach [] env)).all (fun x => x.1.isSome) && decide (([e] : List Expr).length + ([] : List Keyword).length + (if ([] : List Keyword).isEmpty then 0 else 1) < 30)) = true)
    (hline : (apos.endLine == cpos.line) = true) (hs : ∀ env, starEach [e] env = (false, eval e env) :: starEach [] env) :
    JS Γ rm (.Expr (.Call (.Attribute (.Name x pn) "append" apos) [e] [] cpos) pos) (sApp i fa) := by
  obtain ⟨t, s, p⟩ := h
  refine ⟨fun W => tDrop (tBM Γ.K "list" rAppend (tVar i) (tCons (t W) tNil)), fun W b σ H F ρ D E P => ?_, fun X W g c => ?_⟩
  · unfold sApp at P
    split at P
    · rename_i l0 h0
      obtain ⟨p, s0, hi, hx, hp, n, tp, wr⟩ := E.slotX h0
      cases tp with
      | lst e1 h1 r1 =>
        refine ⟨_, hp, .inl ⟨rfl, _, SqL.of e1⟩, ?_⟩
        refine s W b σ H F ρ _ E (PostS.bind P fun d ρ1 v F1 H1 s1 k1 E1 rv P1 => ?_)
        split at P1
        · rename_i l h2
          split at P1
          · rename_i hl
            obtain ⟨p', s', hi', hx', hp', n', tp', wr'⟩ := E1.slotX h2
            rw [hp] at hp'
            cases hp'
            cases tp' with
            | lst e2 h3 r2 =>
              refine ⟨p, _, v, rfl, rfl, e2, by rw [r2.length]; exact hl, ?_⟩
              exact P1 σ F1 _ (wr' _ _ (.lst upd_same (by rw [List.length_append, r2.length] <;> exact hl) (r2.append (.cons rv .nil))))
          · exact P1.elim
        · exact P1.elim
    · exact P.elim
  · have q := pe_bm (X := X) (apos := apos) (cpos := cpos) PySem.F.plainAttrs_list PySem.F.slot_list_append PySem.F.type_list_append mt_append (pe_var (pos := pn) (by rw [g.N]; exact hN) (by rw [g.sc]; exact hv) hd hcd) (pa_cons (p X W g c) pa_nil (hs _)) (hbase _) (hfew _) hline (hs _) rfl
    rw [g.K] at q
    exact ps_expr q rfl
end
end PD
namespace PD
open PySem PySem.Spec L2

/-! ### x[i] = v, x[i] += v -/
theorem pset_or {X : Cx} {t u : TSet} (h : PSet X t) (h' : PSet X u) : PSet X (fun o i v H Q => t o i v H Q ∨ u o i v H Q) := by
  intro pins s σ H o i v ov iv uv Q I ro ri rv q
  rcases q with q | q
  · exact h pins s σ H o i v ov iv uv Q I ro ri rv q
  · exact h' pins s σ H o i v ov iv uv Q I ro ri rv q
def rGetL (K : PySem.W.Frag) : V → V → Hp → VK → Prop := fun o i H Q => ∃ p xs k v, o = .ref p ∧ i = .int k ∧ 0 ≤ k ∧ SqL K H p xs ∧ atI xs k = some v ∧ Q v H
theorem get_list {X : Cx} : PGet X (rGetL X.K) := by
  intro pins s σ H o i ov iv Q I ro ri h
  obtain ⟨p, xs, k, z, rfl, rfl, h0, hq, he, q⟩ := h
  cases ro
  obtain ⟨t, rfl⟩ := ri
  obtain ⟨its, r, pl, hz⟩ := I.list hq
  obtain ⟨j, h1, h2, h3, h4, h5⟩ := atI_get he
  obtain ⟨w, ew, rw'⟩ := r.get h2
  have hl := r.length
  have hn := line63
  have hj : k.toNat = j := by
    rw [seqIndex_of h0 h5] at h1
    exact Option.some.inj h1
  exact wpAny_getItem_list pl.isList h0 (by omega) (by rw [hj]; simpa using ew) ⟨z, H, I, rw', q⟩
def rGetD : V → V → Hp → VK → Prop := fun o i H Q => ∃ a v, o = .ref a ∧ DGet H a i (some v) ∧ Q v H
theorem get_dict {X : Cx} (hu : X.A.units + 1 < cLine) : PGet X rGetD := by
  intro pins s σ H o i ov iv Q I ro ri h
  obtain ⟨a, v, rfl, g, q⟩ := h
  obtain rfl : ov = Value.ref a := ro
  exact d_getItem hu I g ri fun w' s' I' r' => ⟨v, H, I', r', q⟩
theorem pget_or {X : Cx} {t u : V → V → Hp → VK → Prop} (h : PGet X t) (h' : PGet X u) : PGet X (fun o i H Q => t o i H Q ∨ u o i H Q) := by
  intro pins s σ H o i ov iv Q I ro ri q
  rcases q with q | q
  · exact h pins s σ H o i ov iv Q I ro ri q
  · exact h' pins s σ H o i ov iv Q I ro ri q
def dput (l : List (DK × D)) (k : DK) (d : D) : List (DK × D) := if (l.any fun kv => decide (kv.1 = k)) = true then l.map (fun kv => if kv.1 = k then (kv.1, d) else kv) else l ++ [(k, d)]
def setD : D → D → D → Option D
  | .lst l, .int k, d => match ixN l.length k with
    | some j => some (.lst (l.set j d))
    | none => none
  | .dct t l, k, d => match k.key with
    | some kk => if t = kk.isRight ∧ l.length < sizeLine then some (.dct t (dput l kk d)) else none
    | none => none
  | _, _, _ => none
theorem repT_put {F : Hp} {k : List Key} {v : V} {d : D} (hv : Rep F v d) : ∀ {ks : List (List Key × V)} {ds : List (DK × D)}, RepT F ks ds → RepT F (putK ks k v) (dput ds (.inr k) d) := by
  have h1 : ∀ {ks : List (List Key × V)} {ds : List (DK × D)}, RepT F ks ds → (ks.any fun kv => decide (kv.1 = k)) = (ds.any fun kv => decide (kv.1 = .inr k)) := by
    intro ks ds r
    induction ks generalizing ds with
    | nil => cases r; rfl
    | cons p ks ih =>
      cases r with
      | @cons k0 v0 d0 _ ds' a r =>
        rw [List.any_cons, List.any_cons, ih r]
        by_cases e : k0 = k
        · subst e; simp
        · have e2 : ¬ (Sum.inr k0 : DK) = .inr k := fun z => e (Sum.inr.inj z)
          simp [e]
  have h2 : ∀ {ks : List (List Key × V)} {ds : List (DK × D)}, RepT F ks ds → RepT F (ks.map fun kv => if kv.1 = k then (kv.1, v) else kv) (ds.map fun kv => if kv.1 = .inr k then (kv.1, d) else kv) := by
    intro ks ds r
    induction ks generalizing ds with
    | nil => cases r; exact .nil
    | cons p ks ih =>
      cases r with
      | @cons k0 v0 d0 _ ds' a r =>
        rw [List.map_cons, List.map_cons]
        by_cases e : k0 = k
        · subst e
          simp only [if_true]
          exact .cons hv (ih r)
        · have e2 : ¬ (Sum.inr k0 : DK) = .inr k := fun z => e (Sum.inr.inj z)
          rw [if_neg e, if_neg e2]
          exact .cons a (ih r)
  have h3 : ∀ {ks : List (List Key × V)} {ds : List (DK × D)}, RepT F ks ds → RepT F (ks ++ [(k, v)]) (ds ++ [(.inr k, d)]) := by
    intro ks ds r
    induction ks generalizing ds with
    | nil => cases r; exact .cons hv .nil
    | cons p ks ih =>
      cases r with
      | cons a r => exact .cons a (ih r)
  intro ks ds r
  unfold putK dput
  rw [h1 r]
  split
  · exact h2 r
  · exact h3 r
theorem nodup_putT {k : List Key} {v : V} {ks : List (List Key × V)} (h : (ks.map (·.1)).Nodup) : ((putK ks k v).map (·.1)).Nodup := by
  cases e : valV ks k with
  | none =>
    rw [putK_new v e, List.map_append]
    exact nd_snoc h (valV_not e)
  | some u =>
    unfold putK
    rw [valV_any, e]
    rw [if_pos (show (some u).isSome = true from rfl), List.map_map]
    have : ((fun x : List Key × V => x.1) ∘ fun kv : List Key × V => if kv.1 = k then (kv.1, v) else kv) = fun x => x.1 := by
      funext p
      show (if p.1 = k then (p.1, v) else p).1 = p.1
      split <;> rfl
    rw [this]
    exact h
theorem len_putT {k : List Key} {v : V} {ks : List (List Key × V)} : (putK ks k v).length ≤ ks.length + 1 := by
  unfold putK
  split
  · rw [List.length_map]; exact Nat.le_succ _
  · rw [List.length_append] <;> exact Nat.le_refl _
theorem RepK.length {F : Hp} : ∀ {vs : List (Key × V)} {ds : List (DK × D)}, RepK F vs ds → vs.length = ds.length
  | _, _, .nil => rfl
  | _, _, .cons _ r => by rw [List.length_cons, List.length_cons, RepK.length r]
theorem RepT.length {F : Hp} : ∀ {vs : List (List Key × V)} {ds : List (DK × D)}, RepT F vs ds → vs.length = ds.length
  | _, _, .nil => rfl
  | _, _, .cons _ r => by rw [List.length_cons, List.length_cons, RepT.length r]
def rSetA : TSet := fun o i v H Q => rSetL o i v H Q ∨ rSetD o i v H Q
theorem so_set {F H : Hp} {p : Addr} {c k d c' : D} {y v : V} {Q : Hp → Prop} (kF : Same F H) (hx : Top F H (.ref p) c) (hy : Top F H y k) (hv : Rep F v d) (hg : setD c k d = some c') (q : ∀ o, Top F (upd H p o) (.ref p) c' → Q (upd H p o)) : rSetA (.ref p) y v H Q := by
  unfold setD at hg
  split at hg
  · rename_i l j d
    split at hg
    · rename_i j' hj
      cases hg
      cases hx with
      | lst e1 h1 r1 =>
        cases hy
        refine .inl ⟨p, _, _, j', rfl, rfl, e1, by rw [r1.length]; exact hj, ?_⟩
        exact q _ (.lst upd_same (by rw [List.length_set]; exact h1) (r1.set _ hv))
    · cases hg
  · rename_i t l k d
    split at hg
    · rename_i kk hk
      split at hg
      · rename_i hc
        obtain ⟨ht, hl⟩ := hc
        cases hg
        cases hx with
        | @dctK p ks _ e1 h1 n1 r1 =>
          cases kk with
          | inr k2 => cases ht
          | inl k1 =>
            have ey : y = kV k1 := by
              cases hy <;> first | (cases hk; rfl) | (cases hk) | skip
              all_goals (unfold D.key at hk; first | (simp at hk; done) | skip)
            subst ey
            have hl' : ks.length < sizeLine := by rw [r1.length]; exact hl
            refine .inr ⟨p, _, rfl, DPut.k e1 hl', ?_⟩
            exact q _ (.dctK upd_same (Nat.le_trans len_put hl') (nodup_put n1) (repK_put hv r1))
        | @dctT p ks _ e1 h1 n1 r1 =>
          cases kk with
          | inl k1 => cases ht
          | inr k2 =>
            cases hy with
            | @tup p2 vs2 ds2 e2 h2 r2 =>
              have hk : Option.map Sum.inr (keys1 ds2) = some (Sum.inr k2 : DK) := hk
              cases q2 : keys1 ds2 with
              | none => rw [q2] at hk; cases hk
              | some k3 =>
                rw [q2] at hk
                cases hk
                have := keys1_of r2 q2
                subst this
                have hl' : ks.length < sizeLine := by rw [r1.length]; exact hl
                refine .inr ⟨p, _, rfl, DPut.t e1 (kF _ _ e2) hl', ?_⟩
                exact q _ (.dctT upd_same (Nat.le_trans len_putT hl') (nodup_putT n1) (repT_put hv r1))
            | _ => cases hk
      · cases hg
    · cases hg
  · cases hg
section
variable {Γ : Gam} {rm m ma : Md} {pu pb : Bool} {W : WX} {pos pos' : Pos} {a e : Expr} {fa fb fv : Env → Out D} {x : Str} {p : Pos} {b : Bs} {F H : Hp} {σ : L2.St} {ρ : Env} {es : List Expr} {fs : Env → Out (List D)}
def sPut (i : Nat) (fk fv : Env → Out D) : Env → RS := fun ρ => sE (fv ρ) fun d ρ1 => match slotD ρ1 i with
  | some _ => sE (fk ρ1) fun k ρ2 => match slotD ρ2 i with
    | some c => match setD c k d with
      | some c' => .nx (putSl ρ2 i c')
      | none => .bad
    | none => .bad
  | none => .bad
theorem js_put (i : Nat) (hN : Γ.N[i]? = some x) (hv : Vis Γ.sc x) (hd : (x == ("__debug__" : Str)) = false) (hcd : (x == ("__classdict__" : Str)) = false) (hk : JE Γ .top pu a fa) (hval : JE Γ .fro pb e fv)
    (ha : ∀ env v, assign (.Subscript (.Name x p) a pos') env v = (do
      let ov ← holding [v] (eval (.Name x p) env)
      let iv ← holding [v, ov] (eval a env)
      standAt pos'
      holding [v, ov, iv] (setItem ov iv v)
      release [v, ov, iv] []))
    (hs : ∀ env line, swapsWithSole [.Subscript (.Name x p) a pos'] e line env = pure false) (hw : ∀ env, swappedStores [.Subscript (.Name x p) a pos'] e env = pure none) (h1 : ∀ env, (assignEach [.Subscript (.Name x p) a pos'] env).map (·.2) = [assign (.Subscript (.Name x p) a pos') env]) :
    JS Γ rm (.Assign [.Subscript (.Name x p) a pos'] e pos) (sPut i fa fv) := by
  obtain ⟨t, s, pk⟩ := hk
  obtain ⟨u, s2, pv⟩ := hval
  refine ⟨fun W => tAsg (u W) (gSub (tVar i) (t W) rSetA), fun W b σ H F ρ D E P => ?_, fun X W g c => ?_⟩
  · refine s2 W b σ H F ρ _ E (PostS.bind P fun d ρ1 v F1 H1 s1 k1 E1 r1 P1 => ?_)
    split at P1
    · rename_i c0 h0
      obtain ⟨p, s0, hi, hx, hp, n, tp, wr⟩ := E1.slotX h0
      refine ⟨_, hp, ?_⟩
      refine s W b σ H1 F1 ρ1 _ E1 (PostS.bind P1 fun k ρ2 y F2 H2 s2 k2 E2 r2 P2 => ?_)
      split at P2
      · rename_i c h2
        obtain ⟨p', s', hi', hx', hp', n', tp', wr'⟩ := E2.slotX h2
        rw [hp] at hp'
        cases hp'
        split at P2
        · rename_i c' hc'
          exact so_set E2.sub tp' r2 (Rep.mono s2.f r1) hc' fun o t' => P2 σ F2 _ (wr' o _ t')
        · exact P2.elim
      · exact P2.elim
    · exact P1.elim
  · exact ps_asg (pv X W g c) (pg_sub (pe_var (by rw [g.N]; exact hN) (by rw [g.sc]; exact hv) hd hcd) (pk X W g c) (pset_or set_list (set_dict (by have := g.hu; omega))) (ha _)) (hs _ _) (hw _) (h1 _)
/-- x[k] += e -/
def sAug (g : Int → Int → Int) (i : Nat) (fk fe : Env → Out D) : Env → RS := fun ρ => match slotD ρ i with
  | some _ => sE (fk ρ) fun k ρ1 => match slotD ρ1 i with
    | some c => match ixD c k, (match c, k with | .lst _, .int j => decide (0 ≤ j) | .dct _ _, _ => true | _, _ => false) with
      | some (.int z), true => sE (fe ρ1) fun y ρ2 => match y, slotD ρ2 i with
        | .int w, some c2 => match setD c2 k (.int (g z w)) with
          | some c' => .nx (putSl ρ2 i c')
          | none => .bad
        | _, _ => .bad
      | _, _ => .bad
    | none => .bad
  | none => .bad
theorem js_aug {op : Operator} {g : Int → Int → Int} (hop : ∀ X, Γ.Has X → PIp X op (ipI g)) (i : Nat) (hN : Γ.N[i]? = some x) (hv : Vis Γ.sc x) (hd : (x == ("__debug__" : Str)) = false) (hcd : (x == ("__classdict__" : Str)) = false) (hk : JE Γ .fro pu a fa) (hval : JE Γ .fro pb e fv)
    (ha : ∀ ov iv new, augStore a ov iv new = (do holding [new, ov, iv] (setItem ov iv new); release [new, ov, iv] []; pure .next)) :
    JS Γ rm (.AugAssign (.Subscript (.Name x p) a pos') op e pos) (sAug g i fa fv) := by
  obtain ⟨t, s, pk⟩ := hk
  obtain ⟨u, s2, pv⟩ := hval
  refine ⟨fun W => tAugS (tVar i) (t W) (u W) (fun o i H Q => rGetL Γ.K o i H Q ∨ rGetD o i H Q) (ipI g) rSetA, fun W b σ H F ρ D E P => ?_, fun X W gg c => ?_⟩
  · unfold sAug at P
    split at P
    · rename_i c0 h0
      obtain ⟨p, s0, hi, hx, hp, n, tp, wr⟩ := E.slotX h0
      refine ⟨_, hp, ?_⟩
      refine s W b σ H F ρ _ E (PostS.bind P fun k ρ1 y F1 H1 st1 k1 E1 r1 P1 => ?_)
      split at P1
      · rename_i c h1
        obtain ⟨p1, s1', hi1, hx1, hp1, n1, tp1, wr1⟩ := E1.slotX h1
        rw [hp] at hp1
        cases hp1
        split at P1
        · rename_i z hz hpos
          have hget : ∀ Q : VK, Q (.int z) H1 → (rGetL Γ.K (.ref p) y H1 Q ∨ rGetD (.ref p) y H1 Q) := by
            intro Q q
            have r1' : Rep F1 y k := r1
            cases tp1 with
            | lst e1 hl1 rr =>
              cases r1' <;> first | (cases hz; done) | skip
              obtain ⟨v, g1, g2⟩ := rr.atI hz
              cases g2
              exact .inl ⟨p, _, _, _, rfl, rfl, of_decide_eq_true hpos, SqL.of e1, g1, q⟩
            | dctK e1 hl1 nn rr =>
              unfold ixD at hz
              dsimp only at hz
              split at hz
              · rename_i kk hkk
                obtain ⟨a, v, ea, gg, rv⟩ := dget_of E1.sub (.dctK e1 hl1 nn rr) (Rep.top E1.sub r1') hkk hz
                cases rv
                exact .inr ⟨a, _, ea, gg, q⟩
              · cases hz
            | dctT e1 hl1 nn rr =>
              unfold ixD at hz
              dsimp only at hz
              split at hz
              · rename_i kk hkk
                obtain ⟨a, v, ea, gg, rv⟩ := dget_of E1.sub (.dctT e1 hl1 nn rr) (Rep.top E1.sub r1') hkk hz
                cases rv
                exact .inr ⟨a, _, ea, gg, q⟩
              · cases hz
            | tup e1 _ _ => rw [n1] at e1; cases e1
          refine hget _ ?_
          refine s2 W b σ H1 F1 ρ1 _ E1 (PostS.bind P1 fun w ρ2 yv F2 H2 st2 k2 E2 r2 P2 => ?_)
          split at P2
          · rename_i wv c2 h2
            obtain ⟨p2, s2', hi2, hx2, hp2, n2, tp2, wr2⟩ := E2.slotX h2
            rw [hp] at hp2
            cases hp2
            cases r2
            refine ⟨z, wv, rfl, rfl, ?_⟩
            split at P2
            · rename_i c' hc'
              exact so_set E2.sub tp2 (Rep.top E2.sub (Rep.mono st2.f r1)) (.int _) hc' fun o t' => P2 σ F2 _ (wr2 o _ t')
            · exact P2.elim
          · exact P2.elim
        · exact P1.elim
      · exact P1.elim
    · exact P.elim
  · have hg := pget_or (get_list (X := X)) (get_dict (X := X) (by have := gg.hu; omega))
    rw [gg.K] at hg
    exact ps_augS (pe_var (by rw [gg.N]; exact hN) (by rw [gg.sc]; exact hv) hd hcd) (pk X W gg c) hg (pv X W gg c) (hop X gg) (pset_or set_list (set_dict (by have := gg.hu; omega))) ha
end
end PD
namespace PD
open PySem PySem.Spec L2

/-! ### defs -/
inductive Rr where
  | ok (d : D) | err (c : Str) | bad
/-- the promise of a def by a function of data; n parameters; how its value is handed back -/
def spD (mg : Str → Option Value) (n : Nat) (rm : Md) (df : List D → Rr) : Sp := fun vs H Q E => vs.length = n ∧ ∃ F ds, Same F H ∧ RepL F vs ds ∧
  match df ds with
  | .ok d => ∀ v F' H', Grow F H F' H' → VRg rm H F' H' v d → Q v H'
  | .err c => ∀ cls F' H', mg c = some cls → Grow F H F' H' → E cls none H'
  | .bad => False
structure FnD (P : Program) (w : World) (K : PySem.W.Frag) (mg : Str → Option Value) (base : Heap) (k : Nat) (x : Str) (n : Nat) (dvs : List D) (rm : Md) (df : List D → Rr) : Prop where
  ex : ∃ f fd ps, FnOk P w K mg base (L2.CX P w) k f fd ps (spD mg n rm df) ∧ mg x = some (.ref f) ∧ PySem.W.keepIn K (.ref f) = true ∧ ∃ dv ds, (∀ F, RepL F dv dvs) ∧ Vals dv ds ∧ Binds K fd ps ds
def dCall (df : List D → Rr) (dvs : List D) (fs : Env → Out (List D)) : Env → Out D := fun ρ => (fs ρ).bind fun ds ρ1 => match df (ds ++ dvs) with
  | .ok d => .ok d ρ1
  | .err c => .err c ρ1
  | .bad => .bad
section
variable {Γ : Gam} {rm m ma : Md} {pu pb : Bool} {W : WX} {pos pos' : Pos} {a e : Expr} {fa fb fv : Env → Out D} {x : Str} {p : Pos} {b : Bs} {F H : Hp} {σ : L2.St} {ρ : Env} {es : List Expr} {fs : Env → Out (List D)} {n : Nat} {dvs : List D} {df : List D → Rr} {k : Nat}
theorem je_call (hf : FnD Γ.P Γ.w Γ.K Γ.mg Γ.base k x n dvs rm df) (hk : k ≤ Γ.k) (hg : Γ.sc.names.lookup x = some .globalImplicit) (hd : (x == ("__debug__" : Str)) = false) (ha : JA Γ .fro pu (e :: es) fs) (hn : (e :: es).length + dvs.length = n)
    (hln : ∀ ρ ds ρ1, fs ρ = .ok ds ρ1 → ds.length = (e :: es).length) (he : ∀ env, starEach (e :: es) env = (false, eval e env) :: starEach es env) (hpl : ∀ env, (backTo pos (starEach es env)).any (·.1) = false) : JE Γ rm pu (.Call (.Name x p) (e :: es) [] pos) (dCall df dvs fs) := by
  obtain ⟨f, fd, ps, FO, hm, hkp, dv, dds, hdv, hdd, hb⟩ := hf.ex
  obtain ⟨t, s, pa⟩ := ha
  refine ⟨fun W => tCallSD (spD Γ.mg n rm df) dv (WE W) (t W), fun W b σ H F ρ Q E P => ?_, fun X W g c => ?_⟩
  · refine s W b σ H F ρ _ E ?_
    have P0 : Post Γ.mg b pu F H σ ρ W (VRg rm) Q ((fs ρ).bind fun ds ρ1 => match df (ds ++ dvs) with
      | .ok d => .ok d ρ1
      | .err c => .err c ρ1
      | .bad => .bad) := P
    cases hfs : fs ρ with
    | err c ρ1 => rw [hfs] at P0; exact P0
    | bad => rw [hfs] at P0; exact P0
    | ok ds ρ1 =>
      rw [hfs] at P0
      intro vs F1 H1 s1 k1 E1 r1
      have rr := r1.rep.append (hdv F1)
      refine ⟨by rw [rr.length, List.length_append, hln ρ ds ρ1 hfs]; exact hn, F1, ds ++ dvs, E1.sub, rr, ?_⟩
      have P1 : Post Γ.mg b pu F H σ ρ W (VRg rm) Q (match df (ds ++ dvs) with
        | .ok d => .ok d ρ1
        | .err c => .err c ρ1
        | .bad => .bad) := P0
      cases hdf : df (ds ++ dvs) with
      | ok d =>
        rw [hdf] at P1
        exact fun v F' H' gr rv => P1 v F' H' (s1.trans (Stp.grow gr)) (fun hp => (k1 hp).trans gr.h) (E1.grow gr) (rv.back fun c h => s1.lv c h)
      | err c =>
        rw [hdf] at P1
        exact fun cls F' H' hc gr => P1 cls F' H' hc (s1.f.trans gr.f) (E1.grow gr)
      | bad => rw [hdf] at P1; exact P1
  · have FO' : FnOk X.prog X.w X.K X.mg X.base (L2.CX X.prog X.w) k f fd ps (spD Γ.mg n rm df) := by rw [g.prog, g.w, g.K, g.mg, g.base]; exact FO
    exact pe_callSD FO' (g.room.mono hk) (show X.env.scope.names.lookup x = some .globalImplicit by rw [g.sc]; exact hg) (by rw [g.mg]; exact hm) (by rw [g.K]; exact hkp) (by rw [g.K]; exact hb) hdd (fun σ => passAt c.tk σ) (pa X W g c) hd (he _) (hpl _)
/-! ### a body keeps its promise -/
def startE (N : Nat) (ds : List D) : Env := ds.map (fun d => some (.fro d)) ++ List.replicate (N - ds.length) none
def runF (rm : Md) (N : Nat) (f : Env → RS) (ds : List D) : Rr := match f (startE N ds) with
  | .rt d _ => .ok d
  | .nx _ => if rm = .fro then .ok .non else .bad
  | .err c _ => .err c
  | _ => .bad
theorem start_slot {F : Hp} : ∀ {vs : List V} {ds : List D} {r : L2.St} {q : Env} (i : Nat) (s : Sl), RepL F vs ds → (∀ (j : Nat) t, q[j]? ≠ some (some t)) → (ds.map (fun d => some (Sl.fro d)) ++ q)[i]? = some (some s) → ∃ v d, (vs.map some ++ r)[i]? = some (some v) ∧ s = .fro d ∧ Rep F v d
  | _, _, r, q, i, s, .nil, hq, h => absurd h (hq i s)
  | _, _, r, q, 0, s, .cons (v := v) (d := d) a _, hq, h => by
    cases h
    exact ⟨v, d, rfl, rfl, a⟩
  | _, _, r, q, i + 1, s, .cons a t, hq, h => start_slot (r := r) i s t hq h
theorem er_start {F H : Hp} {N : List Str} {vs : List V} {ds : List D} {A : Addr → Prop} (k : Same F H) (r : RepL F vs ds) (hA : ∀ c, A c → F c = none) : ER ⟨H, F, A⟩ F H (L2.start N vs) (startE N.length ds) where
  sub := k
  len := by
    unfold L2.start startE
    simp [r.length]
  slot := fun i s h => by
    unfold startE at h
    obtain ⟨v, d, h1, rfl, h2⟩ := start_slot (r := List.replicate (N.length - vs.length) none) i s r (fun j t z => by
      rw [List.getElem?_replicate] at z
      split at z <;> cases z) h
    exact ⟨v, h1, h2⟩
  sep := fun i j s t v _ hi hs _ _ => by
    unfold startE at hi
    obtain ⟨v, d, h1, rfl, h2⟩ := start_slot (r := List.replicate (N.length - vs.length) none) i s r (fun j t z => by
      rw [List.getElem?_replicate] at z
      split at z <;> cases z) hi
    cases hs
  base := fun c o h _ => h
  live := fun c h => h
  fro := .refl _
  new := fun _ _ => rfl
theorem fnD_of {P : Program} {w : World} {K : PySem.W.Frag} {mg : Str → Option Value} {base : Heap} {y qual : Str} {params : Arguments} {body : List Stmt} {scope : Scope} {dvl : List V} {kws : List (Str × V)} {fA : Addr} {fd : FuncData} {N ps : List Str} {f : Env → RS}
    (FD : FunD K y qual params body scope dvl kws fA fd) (S : FnScope N ps scope) (hj : JSs ⟨P, w, K, mg, base, N, scope, fun _ => true, k⟩ rm body f) : FnOk P w K mg base (L2.CX P w) (k + 1) fA fd ps (spD mg ps.length rm (runF rm N.length f)) := by
  refine FD.ok S (fun vs H Q E h => h.1) fun cdv A outer s H vs Q E hr h => ?_
  obtain ⟨hl, F, ds, kS, rl, h⟩ := h
  obtain ⟨ts, sem, ps'⟩ := hj
  refine ⟨ts (fun cls d _ H => E cls d H), ps' _ _ ⟨rfl, rfl, rfl, rfl, rfl, rfl, rfl, rfl, hr, rfl, S.nd⟩ ⟨takes_of rfl rfl rfl rfl, passes_of rfl⟩, ?_⟩
  refine sem _ ⟨H, F, fun _ => False⟩ _ H F _ _ (er_start kS rl fun _ h => h.elim) ?_
  have gr : ∀ {σ' : L2.St} {F' H' : Hp} {ρ' : Env}, ER ⟨H, F, fun _ => False⟩ F' H' σ' ρ' → Grow F H F' H' := fun E' => ⟨fun c o h => E'.base c o h id, E'.fro, E'.sub, fun c h => E'.new c h⟩
  unfold runF at h
  cases q : f (startE N.length ds) with
  | nx ρ =>
    rw [q] at h
    intro σ' F' H' E'
    dsimp only at h
    split at h
    · rename_i d hd
      split at hd
      · rename_i hrm
        cases hd
        subst hrm
        exact h .non F' H' (gr E') .non
      · cases hd
    · rename_i c hd
      split at hd <;> cases hd
    · exact h.elim
  | rt d ρ =>
    rw [q] at h
    intro v σ' F' H' E' rv
    refine h v F' H' (gr E') ?_
    cases rm with
    | fro => exact rv
    | own => obtain ⟨p, e, h0, n, t⟩ := rv; exact ⟨p, e, h0, n, t⟩
    | top => exact rv.elim
  | bk ρ => rw [q] at h; exact h.elim
  | ct ρ => rw [q] at h; exact h.elim
  | err c ρ => rw [q] at h; exact fun cls σ' F' H' hc E' => h cls F' H' hc (gr E')
  | bad => rw [q] at h; exact h.elim
/-! ### a def that changes its first argument -/
inductive Rm where
  | ok (d s : D) | err (c : Str) | bad
structure GrowX (q : Addr) (F H F' H' : Hp) : Prop where
  h : ∀ b o, H b = some o → b ≠ q → H' b = some o
  f : Same F F'
  s : Same F' H'
  n : ∀ b, H b ≠ none → F' b = F b
  l : H' q ≠ none
def spM (n : Nat) (rm : Md) (df : D → List D → Rm) : Sp := fun vs H Q E => vs.length = n ∧ ∃ F q us s ds, vs = V.ref q :: us ∧ F q = none ∧ H q ≠ none ∧ Same F H ∧ Top F H (.ref q) s ∧ RepL F us ds ∧
  match df s ds with
  | .ok d s' => ∀ v F' H', GrowX q F H F' H' → Top F' H' (.ref q) s' → VRg rm H F' H' v d → Q v H'
  | .err c => False
  | .bad => False
structure FnM (P : Program) (w : World) (K : PySem.W.Frag) (mg : Str → Option Value) (base : Heap) (k : Nat) (x : Str) (n : Nat) (rm : Md) (df : D → List D → Rm) : Prop where
  ex : ∃ f fd ps, FnOk P w K mg base (L2.CX P w) k f fd ps (spM n rm df) ∧ mg x = some (.ref f) ∧ PySem.W.keepIn K (.ref f) = true ∧ Binds K fd ps []
def Sl.upd (s : Sl) (d : D) : Sl := match s with
  | .arg _ => .arg d
  | _ => .own d
theorem ER.growX (E : ER b F H σ ρ) {F' H' : Hp} {i : Nat} {q : Addr} {d' : D} {s : Sl} (hi : ρ[i]? = some (some s)) (hs : s.ex = true) (hp : σ[i]? = some (some (.ref q))) (g : GrowX q F H F' H') (t : Top F' H' (.ref q) d') : ER b F' H' σ (putSl ρ i d') := by
  obtain ⟨v, h1, h2⟩ := E.slot i _ hi
  rw [hp] at h1; cases h1
  have hl : i < ρ.length := (List.getElem?_eq_some_iff.mp hi).1
  have hn : F q = none ∧ (b.H0 q = none ∨ b.A q) := by
    cases s with
    | fro d => cases hs
    | own d => obtain ⟨p', e', m, h, _⟩ := h2; cases e'; exact ⟨m, .inl h⟩
    | arg d => obtain ⟨p', e', m, h, _⟩ := h2; cases e'; exact ⟨m, .inr h⟩
  have hHq : H q ≠ none := E.lives hi hp
  have hFq : F' q = none := by rw [g.n q hHq]; exact hn.1
  have hput : putSl ρ i d' = ρ.set i (some (s.upd d')) := by
    unfold putSl
    rw [hi]
    cases s <;> rfl
  rw [hput]
  refine ⟨g.s, by rw [List.length_set, E.len], fun j s' e => ?_, fun j k s' u w hjk hj hs' hk hu hv => ?_, fun c u h n => ?_, fun c h z => ?_, E.fro.trans g.f, fun c hc => by rw [g.n c (E.live c hc)]; exact E.new c hc⟩
  · by_cases ej : i = j
    · subst ej
      rw [List.getElem?_set_self hl] at e
      cases e
      refine ⟨_, hp, ?_⟩
      cases s with
      | fro d => cases hs
      | own d => obtain ⟨p', e', m, h, _⟩ := h2; cases e'; exact ⟨q, rfl, hFq, h, t⟩
      | arg d => obtain ⟨p', e', m, h, _⟩ := h2; cases e'; exact ⟨q, rfl, hFq, h, t⟩
    · rw [List.getElem?_set_ne ej] at e
      obtain ⟨v, g1, g2⟩ := E.slot j s' e
      refine ⟨v, g1, g2.mono g.f (fun _ r hr u hu => ?_) fun hx r hr => ?_⟩
      · subst hr
        have : r ≠ q := fun z => by
          subst z
          exact E.sep i j _ _ _ ej hi hs e hp g1
        exact g.h r u hu this
      · subst hr
        rw [g.n r (E.lives e g1)]
        cases s' with
        | fro d => cases hx
        | own d => obtain ⟨p', e', m, _⟩ := g2; cases e'; exact m
        | arg d => obtain ⟨p', e', m, _⟩ := g2; cases e'; exact m
  · by_cases ej : i = j
    · subst ej
      rw [List.getElem?_set_ne hjk] at hk
      exact E.sep i k s _ w hjk hi hs hk hu hv
    · rw [List.getElem?_set_ne ej] at hj
      by_cases ek : i = k
      · subst ek
        exact E.sep j i s' _ w hjk hj hs' hi hu hv
      · rw [List.getElem?_set_ne ek] at hk
        exact E.sep j k s' u w hjk hj hs' hk hu hv
  · have : c ≠ q := fun z => by
      subst z
      rcases hn.2 with r | r
      · rw [r] at h; cases h
      · exact n r
    exact g.h c u (E.base c u h n) this
  · by_cases e : c = q
    · subst e; exact g.l z
    · cases r : H c with
      | none => exact E.live c h r
      | some o => rw [g.h c o r e] at z; cases z
def dCallM (i : Nat) (df : D → List D → Rm) (fs : Env → Out (List D)) : Env → Out D := fun ρ => match slotD ρ i with
  | some _ => (fs ρ).bind fun ds ρ1 => match slotD ρ1 i with
    | some s => match df s ds with
      | .ok d s' => .ok d (putSl ρ1 i s')
      | _ => .bad
    | none => .bad
  | none => .bad
theorem je_callM {df : D → List D → Rm} (i : Nat) {y : Str} {py : Pos} (hf : FnM Γ.P Γ.w Γ.K Γ.mg Γ.base k x n rm df) (hk : k ≤ Γ.k) (hg : Γ.sc.names.lookup x = some .globalImplicit) (hd : (x == ("__debug__" : Str)) = false)
    (hN : Γ.N[i]? = some y) (hv : Vis Γ.sc y) (hd2 : (y == ("__debug__" : Str)) = false) (hcd : (y == ("__classdict__" : Str)) = false) (ha : JA Γ .fro pu es fs) (hn : es.length + 1 = n)
    (hln : ∀ ρ ds ρ1, fs ρ = .ok ds ρ1 → ds.length = es.length) (he : ∀ env, starEach (.Name y py :: es) env = (false, eval (.Name y py) env) :: starEach es env) (hpl : ∀ env, (backTo pos (starEach es env)).any (·.1) = false) : JE Γ rm false (.Call (.Name x p) (.Name y py :: es) [] pos) (dCallM i df fs) := by
  obtain ⟨f, fd, ps, FO, hm, hkp, hb⟩ := hf.ex
  obtain ⟨t, s, pa⟩ := ha
  refine ⟨fun W => tCallSD (spM n rm df) [] (WE W) (tCons (tVar i) (t W)), fun W b σ H F ρ Q E P => ?_, fun X W g c => ?_⟩
  · unfold dCallM at P
    split at P
    · rename_i s0 h0
      obtain ⟨q, sl, hi, hx, hp, nq, tq, _⟩ := E.slotX h0
      refine ⟨_, hp, ?_⟩
      refine s W b σ H F ρ _ E ?_
      cases hfs : fs ρ with
      | err c ρ1 => rw [hfs] at P; exact P
      | bad => rw [hfs] at P; exact P
      | ok ds ρ1 =>
        rw [hfs] at P
        intro vs F1 H1 s1 k1 E1 r1
        dsimp only [Out.bind] at P
        split at P
        · rename_i s1v h1
          obtain ⟨q', sl', hi', hx', hp', nq', tq', _⟩ := E1.slotX h1
          rw [hp] at hp'
          cases hp'
          have rr := r1.rep
          show spM n rm df ((V.ref q :: vs) ++ []) H1 Q _
          rw [List.append_nil]
          refine ⟨by rw [List.length_cons, rr.length, hln ρ ds ρ1 hfs]; exact hn, F1, q, vs, s1v, ds, rfl, nq', E1.lives hi' hp, E1.sub, tq', rr, ?_⟩
          cases hdf : df s1v ds with
          | ok d s' =>
            rw [hdf] at P
            intro v F' H' gr tp rv
            have E2 := E1.growX hi' hx' hp gr tp
            refine P v F' H' (s1.trans ⟨gr.f, fun c o h n => ?_, fun c h n => gr.n c h, fun c h z => ?_, fun c h j s2 hj hs2 => ?_, fun j u hj => ?_⟩) (fun z => by cases z) E2 (rv.back fun c h => s1.lv c h)
            · exact gr.h c o h fun z => by subst z; exact n i _ hi' hx' hp
            · by_cases e : c = q
              · subst e; exact gr.l z
              · cases r : H1 c with
                | none => exact h r
                | some o => rw [gr.h c o r e] at z; cases z
            · by_cases e : i = j
              · subst e; exact h i _ hi' hx'
              · refine h j s2 ?_ hs2
                unfold putSl at hj
                split at hj <;> (rw [List.getElem?_set_ne e] at hj; exact hj)
            · by_cases e : i = j
              · subst e; exact ⟨_, hi'⟩
              · refine ⟨u, ?_⟩
                unfold putSl at hj
                split at hj <;> (rw [List.getElem?_set_ne e] at hj; exact hj)
          | err c => rw [hdf] at P; exact P
          | bad => rw [hdf] at P; exact P
        · exact P.elim
    · exact P.elim
  · have FO' : FnOk X.prog X.w X.K X.mg X.base (L2.CX X.prog X.w) k f fd ps (spM n rm df) := by rw [g.prog, g.w, g.K, g.mg, g.base]; exact FO
    exact pe_callSD FO' (g.room.mono hk) (show X.env.scope.names.lookup x = some .globalImplicit by rw [g.sc]; exact hg) (by rw [g.mg]; exact hm) (by rw [g.K]; exact hkp) (by rw [g.K]; exact hb) .nil (fun σ => passAt c.tk σ) (pa_cons (pe_var (by rw [g.N]; exact hN) (by rw [g.sc]; exact hv) hd2 hcd) (pa X W g c) (he _)) hd (he _) (hpl _)
/-- its body -/
def startM (N : Nat) (s : D) (ds : List D) : Env := some (.arg s) :: ds.map (fun d => some (.fro d)) ++ List.replicate (N - (ds.length + 1)) none
def runM (rm : Md) (N : Nat) (f : Env → RS) (s : D) (ds : List D) : Rm := match f (startM N s ds) with
  | .rt d ρ => match List.head? ρ with
    | some (some (Sl.arg s')) => .ok d s'
    | _ => .bad
  | _ => .bad
theorem fnM_of {P : Program} {w : World} {K : PySem.W.Frag} {mg : Str → Option Value} {base : Heap} {y qual : Str} {params : Arguments} {body : List Stmt} {scope : Scope} {dvl : List V} {kws : List (Str × V)} {fA : Addr} {fd : FuncData} {N ps : List Str} {f : Env → RS}
    (FD : FunD K y qual params body scope dvl kws fA fd) (S : FnScope N ps scope) (hN : ps.length ≤ N.length) (hj : JSs ⟨P, w, K, mg, base, N, scope, fun _ => true, k⟩ rm body f) : FnOk P w K mg base (L2.CX P w) (k + 1) fA fd ps (spM ps.length rm (runM rm N.length f)) := by
  refine FD.ok S (fun vs H Q E h => h.1) fun cdv A outer s H vs Q E hr h => ?_
  obtain ⟨hl, F, q, us, st, ds, rfl, hFq, hHq, kS, tq, rl, h⟩ := h
  obtain ⟨ts, sem, ps'⟩ := hj
  refine ⟨ts (fun cls d _ H => E cls d H), ps' _ _ ⟨rfl, rfl, rfl, rfl, rfl, rfl, rfl, rfl, hr, rfl, S.nd⟩ ⟨takes_of rfl rfl rfl rfl, passes_of rfl⟩, ?_⟩
  have hstart : L2.start N (V.ref q :: us) = some (.ref q) :: (us.map some ++ List.replicate (N.length - (us.length + 1)) none) := rfl
  have slots : ∀ (i : Nat) sl, (startM N.length st ds)[i]? = some (some sl) → (i = 0 ∧ sl = .arg st) ∨ ∃ j v d, i = j + 1 ∧ (us.map some ++ List.replicate (N.length - (us.length + 1)) none)[j]? = some (some v) ∧ sl = .fro d ∧ Rep F v d := by
    intro i sl hi
    cases i with
    | zero => cases hi; exact .inl ⟨rfl, rfl⟩
    | succ j =>
      right
      have hi' : (ds.map (fun d => some (Sl.fro d)) ++ List.replicate (N.length - (ds.length + 1)) none)[j]? = some (some sl) := hi
      obtain ⟨v, d, h1, h2, h3⟩ := start_slot (r := List.replicate (N.length - (us.length + 1)) none) j sl rl (fun j t z => by
        rw [List.getElem?_replicate] at z
        split at z <;> cases z) hi'
      exact ⟨j, v, d, rfl, h1, h2, h3⟩
  have E0 : ER ⟨H, F, fun c => c = q⟩ F H (L2.start N (V.ref q :: us)) (startM N.length st ds) := by
    refine ⟨kS, by rw [hstart]; unfold startM; simp [rl.length], fun i sl hi => ?_, fun i j s t v hij hi hs hj hv => ?_, fun c o h _ => h, fun c h => h, .refl _, fun _ _ => rfl⟩
    · rcases slots i sl hi with ⟨rfl, rfl⟩ | ⟨j, v, d, rfl, h1, rfl, h3⟩
      · exact ⟨.ref q, rfl, q, rfl, hFq, rfl, tq⟩
      · exact ⟨v, h1, h3⟩
    · rcases slots i s hi with ⟨rfl, rfl⟩ | ⟨i', v', d, rfl, h1, rfl, h3⟩
      · rcases slots j t hj with ⟨rfl, rfl⟩ | ⟨j', v', d, rfl, h1, rfl, h3⟩
        · exact absurd rfl hij
        · cases hv
          intro z
          have z' : (us.map some ++ List.replicate (N.length - (us.length + 1)) none)[j']? = some (some (V.ref q)) := z
          rw [h1] at z'
          cases z'
          exact h3.fne hFq
      · cases hs
  refine sem _ _ _ H F _ _ E0 ?_
  unfold runM at h
  cases hq : f (startM N.length st ds) with
  | rt d ρ =>
    rw [hq] at h
    intro v σ' F' H' E' rv
    dsimp only at h
    split at h
    · rename_i d' s' hd
      split at hd
      · rename_i s'' h0
        cases hd
        obtain ⟨v0, g1, g2⟩ := E'.slot 0 _ (by rw [← List.head?_eq_getElem?]; exact h0)
        obtain ⟨p', rfl, g3, g4, g5⟩ := g2
        cases (show p' = q from g4)
        refine h v F' H' ⟨fun c o hc hne => E'.base c o hc hne, E'.fro, E'.sub, fun c hc => E'.new c hc, E'.live _ hHq⟩ g5 ?_
        cases rm with
        | fro => exact rv
        | own => obtain ⟨p, e, h0, n, t⟩ := rv; exact ⟨p, e, h0, n, t⟩
        | top => exact rv.elim
      · cases hd
    · exact h.elim
    · exact h.elim
  | nx ρ => rw [hq] at h; exact h.elim
  | bk ρ => rw [hq] at h; exact h.elim
  | ct ρ => rw [hq] at h; exact h.elim
  | err c ρ => rw [hq] at h; exact h.elim
  | bad => rw [hq] at h; exact h.elim
theorem ln_nil : ∀ ρ ds ρ1, dNil ρ = .ok ds ρ1 → ds.length = 0 := fun ρ ds ρ1 h => by cases h; rfl
theorem ln_cons {fa : Env → Out D} {fr : Env → Out (List D)} {n : Nat} (h : ∀ ρ ds ρ1, fr ρ = .ok ds ρ1 → ds.length = n) : ∀ ρ ds ρ1, dCons fa fr ρ = .ok ds ρ1 → ds.length = n + 1 := fun ρ ds ρ1 q => by
  unfold dCons at q
  cases h1 : fa ρ with
  | ok d ρ2 =>
    rw [h1] at q
    have q : (fr ρ2).bind (fun ds ρ2 => Out.ok (d :: ds) ρ2) = .ok ds ρ1 := q
    cases h2 : fr ρ2 with
    | ok es ρ3 =>
      rw [h2] at q
      cases q
      rw [List.length_cons, h _ _ _ h2]
    | err c ρ3 => rw [h2] at q; cases q
    | bad => rw [h2] at q; cases q
  | err c ρ2 => rw [h1] at q; cases q
  | bad => rw [h1] at q; cases q
theorem ja_imp {es : List Expr} {f : Env → Out (List D)} (h : JA Γ m true es f) : JA Γ m pu es f := by
  obtain ⟨te, hs, hp⟩ := h
  refine ⟨te, fun W b σ H F ρ Q E P => hs W b σ H F ρ Q E ?_, hp⟩
  revert P
  cases f ρ with
  | ok d ρ' => exact fun P v F' H' s k E' r => P v F' H' s (fun _ => k rfl) E' r
  | err c ρ' => exact fun P => P
  | bad => exact fun P => P
theorem ji_imp {f : Env → Out (List D)} (h : JI Γ true e f) : JI Γ pu e f := by
  obtain ⟨te, hs, hp⟩ := h
  refine ⟨te, fun W b σ H F ρ Q E P => hs W b σ H F ρ Q E ?_, hp⟩
  revert P
  cases f ρ with
  | ok d ρ' => exact fun P v F' H' s k E' r => P v F' H' s (fun _ => k rfl) E' r
  | err c ρ' => exact fun P => P
  | bad => exact fun P => P
theorem jts_imp {es : List Expr} {f : Env → Out Bool} (h : JTs Γ true es f) : JTs Γ pu es f := by
  obtain ⟨te, hs, hp⟩ := h
  refine ⟨te, fun W b σ H F ρ Q E P => hs W b σ H F ρ Q E ?_, hp⟩
  revert P
  cases f ρ with
  | ok d ρ' => exact fun P v F' H' s k E' r => P v F' H' s (fun _ => k rfl) E' r
  | err c ρ' => exact fun P => P
  | bad => exact fun P => P
theorem jo_imp {eo : Option Expr} {f : Env → Out (Option Int)} (h : JO Γ true eo f) : JO Γ pu eo f := by
  obtain ⟨te, hs, hp⟩ := h
  refine ⟨te, fun W b σ H F ρ Q E P => hs W b σ H F ρ Q E ?_, hp⟩
  revert P
  cases f ρ with
  | ok d ρ' => exact fun P v F' H' s k E' r => P v F' H' s (fun _ => k rfl) E' r
  | err c ρ' => exact fun P => P
  | bad => exact fun P => P
end
end PD
namespace PD
open PySem PySem.Spec L2

/-! ### checks by evaluation -/
def visC (sc : Scope) (x : Str) : Bool := match sc.names.lookup x with
  | some .local => true
  | some .cell => true
  | some .free => true
  | _ => false
def locC (sc : Scope) (x : Str) : Bool := match sc.names.lookup x with
  | some .local => true
  | some .cell => true
  | _ => false
theorem visB {sc : Scope} {x : Str} (h : visC sc x = true) : Vis sc x := by
  unfold visC at h
  unfold Vis
  split at h
  · rename_i e; exact .inl e
  · rename_i e; exact .inr (.inl e)
  · rename_i e; exact .inr (.inr e)
  · cases h
theorem locB {sc : Scope} {x : Str} (h : locC sc x = true) : L2.Loc sc x := by
  unfold locC at h
  unfold L2.Loc
  split at h
  · rename_i e; exact .inl e
  · rename_i e; exact .inr e
  · cases h
theorem fnB {Γ : Gam} {x : Str} (h : (Γ.fn x || (Γ.sc.names.lookup x == some .local)) = true) : Γ.fn x = true ∨ Γ.sc.names.lookup x = some .local := by
  rcases Bool.or_eq_true_iff.mp h with h | h
  · exact .inl h
  · exact .inr (by simpa using h)
theorem lek {a b : Nat} (h : Nat.ble a b = true) : a ≤ b := Nat.le_of_ble_eq_true h
/-! ### a pure expression leaves what may be changed as it was -/
theorem ER.same {b : Bs} {F H H' : Hp} {σ : L2.St} {ρ : Env} (E : ER b F H σ ρ) (k : Same H H') : ER b F H' σ ρ where
  sub := E.sub.trans k
  len := E.len
  slot := fun i s h => by
    obtain ⟨v, h1, h2⟩ := E.slot i s h
    refine ⟨v, h1, h2.mono (.refl _) (fun _ p _ o q => k p o q) fun hx p hp => ?_⟩
    subst hp
    cases s with
    | fro d => cases hx
    | own d => obtain ⟨p', e', n, _⟩ := h2; cases e'; exact n
    | arg d => obtain ⟨p', e', n, _⟩ := h2; cases e'; exact n
  sep := E.sep
  base := fun c o h n => k c o (E.base c o h n)
  live := fun c h z => by
    cases q : H c with
    | none => exact E.live c h q
    | some o => rw [k c o q] at z; cases z
  fro := E.fro
  new := E.new
theorem Stp.same {F H H' : Hp} {σ : L2.St} {ρ : Env} (k : Same H H') : Stp σ ρ F H ρ F H' :=
  ⟨.refl _, fun c o h _ => k c o h, fun _ _ _ => rfl, fun c h z => (by
    cases q : H c with
    | none => exact h q
    | some o => rw [k c o q] at z; cases z), fun _ h => h, fun _ t h => ⟨t, h⟩⟩
def unB (f : Env → Out Bool) : Env → Out Bool := fun ρ => match f ρ with
  | .ok c _ => .ok c ρ
  | _ => .bad
theorem jt_un {Γ : Gam} {e : Expr} {f : Env → Out Bool} (h : JT Γ true e f) : JT Γ true e (unB f) := by
  obtain ⟨te, hs, hp⟩ := h
  refine ⟨te, fun W b σ H F ρ Q E P => hs W b σ H F ρ Q E ?_, hp⟩
  unfold unB at P
  cases q : f ρ with
  | ok c ρ' =>
    rw [q] at P
    intro v F' H' s k E' r
    exact P v F H' (Stp.same (k rfl)) k (E.same (k rfl)) r
  | err c ρ' => rw [q] at P; exact P.elim
  | bad => rw [q] at P; exact P.elim
def D.thin : D → Bool
  | .non => true
  | .bl _ => true
  | .int _ => true
  | .str _ => true
  | _ => false
def unE (f : Env → Out D) : Env → Out D := fun ρ => match f ρ with
  | .ok c _ => if c.thin = true then .ok c ρ else .bad
  | _ => .bad
theorem je_un {Γ : Gam} {e : Expr} {f : Env → Out D} (h : JE Γ .fro true e f) : JE Γ .fro true e (unE f) := by
  obtain ⟨te, hs, hp⟩ := h
  refine ⟨te, fun W b σ H F ρ Q E P => hs W b σ H F ρ Q E ?_, hp⟩
  unfold unE at P
  cases q : f ρ with
  | ok c ρ' =>
    rw [q] at P
    intro v F' H' s k E' r
    dsimp only at P
    split at P
    · rename_i ht
      refine P v F H' (Stp.same (k rfl)) k (E.same (k rfl)) ?_
      have r : Rep F' v c := r
      show Rep F v c
      cases r with
      | non => exact .non
      | bl b => exact .bl b
      | int i => exact .int i
      | str s => exact .str s
      | _ => cases ht
    · exact P.elim
  | err c ρ' => rw [q] at P; exact P.elim
  | bad => rw [q] at P; exact P.elim
/-! ### a statement that is never come to -/
def sBad : Env → RS := fun _ => .bad
theorem js_dead {Γ : Gam} {rm : Md} {st : Stmt} : JS Γ rm st sBad := ⟨fun _ _ _ _ => False, fun _ _ _ _ _ _ _ _ P => (P : False), fun _ _ _ _ => ⟨fun _ _ _ _ _ _ h => h.elim⟩⟩
/-! ### the law -/
def startL (n i : Nat) (ns : List Int) : Env := (List.replicate n none).set i (some (.own (.lst [.lst (ns.map D.int), .int 0, .int 0, .int 1])))
def spLaw (K : PySem.W.Frag) (n i : Nat) (f : Env → RS) : Sp := fun vs H Q _ => ∃ (a : Addr) (ns : List Int), vs = [.ref a] ∧ SqL K H a (ns.map V.int) ∧ ns.length ≤ sizeLine ∧ (∀ H', Q (.bl true) H') ∧ ∃ ρ', f (startL n i ns) = .rt (.bl true) ρ'
theorem law_of {P : Program} {w : World} {K : PySem.W.Frag} {mg : Str → Option Value} {base : Heap} {y qual : Str} {params : Arguments} {body rest : List Stmt} {scope : Scope} {dvl : List V} {kws : List (Str × V)} {fA : Addr} {fd : FuncData} {N : List Str} {f : Env → RS} {k : Nat}
    {p1 p2 p3 p4 p5 p6 p7 p8 p9 : Pos} {k1 k2 k3 : Nat}
    (FD : FunD K y qual params body scope dvl kws fA fd) (S : FnScope N ["script"] scope)
    (hb : body = .Assign [.Name "state" p1] (.List [.Call (.Name "list" p2) [.Name "script" p3] [] p4, .Constant (.int 0) k1 p5, .Constant (.int 0) k2 p6, .Constant (.int 1) k3 p7] p8) p9 :: rest)
    (i : Nat) (hi : N[i]? = some ("state" : Str)) (h0 : N[0]? = some ("script" : Str)) (hl : locC scope "state" = true) (hv : visC scope "script" = true) (hg : scope.names.lookup ("list" : Str) = some .globalImplicit) (hm : mg "list" = none)
    (hj : JSs ⟨P, w, K, mg, base, N, scope, fun _ => true, k⟩ .fro rest f) : FnOk P w K mg base (L2.CX P w) (k + 1) fA fd ["script"] (spLaw K N.length i f) := by
  subst hb
  refine FD.ok S (fun vs H Q E h => ?_) fun cdv A outer s H vs Q E hr h => ?_
  · obtain ⟨a, ns, rfl, _⟩ := h
    rfl
  obtain ⟨a, ns, rfl, hS, hlen, hQ, ρ', hf⟩ := h
  obtain ⟨ts, sem, ps'⟩ := hj
  have g : Gam.Has ⟨P, w, K, mg, base, N, scope, fun _ => true, k⟩ (cxOf (L2.CX P w) P w K mg base N qual scope fA cdv A outer s H E) := ⟨rfl, rfl, rfl, rfl, rfl, rfl, rfl, rfl, hr, rfl, S.nd⟩
  have hp := ps' _ (fun cls d _ H => E cls d H) g ⟨takes_of rfl rfl rfl rfl, passes_of rfl⟩
  refine ⟨_, pss_cons (ps_set (i := i) S.nd hi (locB hl) (pe_lst (pa_cons (pe_callTy call_list_of (show scope.names.lookup ("list" : Str) = some .globalImplicit from hg) hm rfl (pa_cons (pe_var (i := 0) h0 (visB hv) rfl rfl) pa_nil) (by decide) rfl) (pa_cons pe_int (pa_cons pe_int (pa_cons pe_int pa_nil)))))) hp, ?_⟩
  refine ⟨.ref a, rfl, a, ns.map V.int, rfl, .inl hS, fun l hHl => ⟨(show 4 ≤ sizeLine by decide), fun z hz => ?_⟩⟩
  have hN1 : i < N.length := (List.getElem?_eq_some_iff.mp hi).1
  have hlz : l ≠ z := fun e => by subst e; rw [upd_same] at hz; cases hz
  have hHz : H z = none := by rw [upd_ne (Ne.symm hlz)] at hz; exact hz
  have hrep : RepL (upd (fun _ => none) l (.lst (ns.map V.int))) (ns.map V.int) (ns.map D.int) := RepL.ints ns
  have h1 : upd (fun _ => none) l (HO.lst (ns.map V.int)) l = some (.lst (ns.map V.int)) := upd_same
  have hz0 : upd (fun _ => none) l (HO.lst (ns.map V.int)) z = none := by rw [upd_ne (Ne.symm hlz)]
  refine sem _ ⟨H, fun _ => none, fun _ => False⟩ _ (upd (upd H l (.lst (ns.map V.int))) z (.lst [.ref l, .int 0, .int 0, .int 1])) (upd (fun _ => none) l (.lst (ns.map V.int))) (startL N.length i ns) _ ?_ ?_
  · refine ⟨fun b o e => ?_, ?_, fun j t hj => ?_, fun j1 j2 t u v hjk hj hs hk hu => ?_, fun c o hc _ => ?_, fun c hc => ?_, fun b o e => (by cases e), fun c hc => ?_⟩
    · by_cases eb : b = l
      · subst eb
        rw [upd_same] at e
        cases e
        rw [upd_ne hlz, upd_same]
      · rw [upd_ne eb] at e; cases e
    · show (startL N.length i ns).length = ((start N [.ref a]).set i _).length
      unfold startL L2.start
      have : 0 < N.length := by omega
      simp
      omega
    · have hi2 : j = i := by
        by_cases e : i = j
        · exact e.symm
        · unfold startL at hj
          rw [List.getElem?_set_ne e, List.getElem?_replicate] at hj
          split at hj <;> cases hj
      subst hi2
      unfold startL at hj
      rw [List.getElem?_set_self (by rw [List.length_replicate]; exact hN1)] at hj
      cases hj
      refine ⟨.ref z, List.getElem?_set_self (by unfold L2.start; simp; omega), z, rfl, hz0, hHz, .lst upd_same (show 4 ≤ sizeLine by decide) ?_⟩
      exact .cons (.lst h1 (by rw [List.length_map]; exact hlen) hrep) (.cons (.int 0) (.cons (.int 0) (.cons (.int 1) .nil)))
    · have e1 : j1 = i := by
        by_cases e : i = j1
        · exact e.symm
        · unfold startL at hj
          rw [List.getElem?_set_ne e, List.getElem?_replicate] at hj
          split at hj <;> cases hj
      have e2 : j2 = i := by
        by_cases e : i = j2
        · exact e.symm
        · unfold startL at hk
          rw [List.getElem?_set_ne e, List.getElem?_replicate] at hk
          split at hk <;> cases hk
      exact absurd (e1.trans e2.symm) hjk
    · have hc : H c = some o := hc
      rw [upd_ne (fun e => by subst e; rw [hHz] at hc; cases hc), upd_ne (fun e => by subst e; rw [hHl] at hc; cases hc)]
      exact hc
    · rw [upd_ne (fun e => hc (by subst e; exact hHz)), upd_ne (fun e => hc (by subst e; exact hHl))]
      exact hc
    · exact upd_ne (fun e => hc (by subst e; exact hHl))
  · show PostS mg .fro _ _ _ (f (startL N.length i ns))
    rw [hf]
    intro v σ' F' H' E' rv
    cases (show Rep F' v (.bl true) from rv)
    exact hQ H'
end PD
namespace PD
open PySem PySem.Spec L2

/-! ### from a def's object to its promise -/
section
variable {P : Program} {w : World} {K : PySem.W.Frag} {mg : Str → Option Value} {base : Heap} {x qual : Str} {params : Arguments} {body : List Stmt} {scope : Scope} {dvs : List V} {kws : List (Str × V)} {f : Addr} {fd : FuncData} {N ps : List Str} {g : Env → RS} {k n : Nat} {rm : Md}
theorem fnD_mk0 (FD : FunD K x qual params body scope [] kws f fd) (S : FnScope N ps scope) (hj : JSs ⟨P, w, K, mg, base, N, scope, fun _ => true, k⟩ rm body g) (hm : mg x = some (.ref f))
    (hb : ∀ (kV doc pm : Value) (an : Option Addr) (cdv ct : Value) (us : List Value), us.length = ps.length → bindArgs (PySem.W.fnOf x qual params body scope .none kV doc pm an cdv ct) ⟨us, []⟩ = pure (ps.zip us)) : FnD P w K mg base (k + 1) x ps.length [] rm (runF rm N.length g) :=
  ⟨f, fd, ps, fnD_of FD S hj, hm, FD.kp, [], [], fun _ => .nil, .nil, FD.bindsN hb⟩
theorem fnD_mk1 (FD : FunD K x qual params body scope dvs kws f fd) (S : FnScope N ps scope) (hj : JSs ⟨P, w, K, mg, base, N, scope, fun _ => true, k⟩ rm body g) (hm : mg x = some (.ref f)) (n j : Nat) {dd : List D} (hdd : ∀ F, RepL F (dvs.drop j) dd) (hd : dvs ≠ []) (hn : n + (dvs.length - j) = ps.length)
    (h : ∀ (T : Addr) (kV doc pm : Value) (an : Option Addr) (cdv ct : Value) (us its : List Value), us.length = n → its.length = dvs.length →
      ∃ k, bindArgs (PySem.W.fnOf x qual params body scope (.ref T) kV doc pm an cdv ct) ⟨us, []⟩ = seqItems? (.ref T) >>= k ∧ k (some its.toArray) = pure (ps.zip (us ++ its.drop j))) : FnD P w K mg base (k + 1) x ps.length dd rm (runF rm N.length g) :=
  let ⟨ds, h1, h2⟩ := FD.binds1 n j hd hn h
  ⟨f, fd, ps, fnD_of FD S hj, hm, FD.kp, _, ds, hdd, h1, h2⟩
theorem fnM_mk (FD : FunD K x qual params body scope [] kws f fd) (S : FnScope N ps scope) (hN : ps.length ≤ N.length) (hj : JSs ⟨P, w, K, mg, base, N, scope, fun _ => true, k⟩ rm body g) (hm : mg x = some (.ref f))
    (hb : ∀ (kV doc pm : Value) (an : Option Addr) (cdv ct : Value) (us : List Value), us.length = ps.length → bindArgs (PySem.W.fnOf x qual params body scope .none kV doc pm an cdv ct) ⟨us, []⟩ = pure (ps.zip us)) : FnM P w K mg base (k + 1) x ps.length rm (runM rm N.length g) :=
  ⟨f, fd, ps, fnM_of FD S hN hj, hm, FD.kp, FD.bindsN hb⟩
/-- a def of which nothing is asked -/
theorem fnOk_bad (FD : FunD K x qual params body scope dvs kws f fd) : FnOk P w K mg base (L2.CX P w) k f fd ps (spD mg ps.length rm fun _ => .bad) :=
  ⟨fun vs H Q E h => h.1, fun A outer s H args us vs Q E _ _ _ _ h => let ⟨_, _, _, _, _, z⟩ := h; z.elim⟩
/-- a def that calls itself -/
theorem fnD_rec {df : Nat → List D → Rr} {b : (List D → Rr) → Env → RS} (FD : FunD K x qual params body scope [] kws f fd) (S : FnScope N ps scope) (hm : mg x = some (.ref f))
    (hb : ∀ (kV doc pm : Value) (an : Option Addr) (cdv ct : Value) (us : List Value), us.length = ps.length → bindArgs (PySem.W.fnOf x qual params body scope .none kV doc pm an cdv ct) ⟨us, []⟩ = pure (ps.zip us))
    (c : Nat) (h0 : df 0 = fun _ => .bad) (hs : ∀ i, df (i + 1) = runF rm N.length (b (df i)))
    (hj : ∀ i, FnD P w K mg base (c + i) x ps.length [] rm (df i) → JSs ⟨P, w, K, mg, base, N, scope, fun _ => true, c + i⟩ rm body (b (df i))) : ∀ i, FnD P w K mg base (c + i) x ps.length [] rm (df i)
  | 0 => by rw [h0]; exact ⟨f, fd, ps, fnOk_bad FD, hm, FD.kp, [], [], fun _ => .nil, .nil, FD.bindsN hb⟩
  | i + 1 => by
    rw [hs i]
    exact ⟨f, fd, ps, fnD_of FD S (hj i (fnD_rec FD S hm hb c h0 hs hj i)), hm, FD.kp, [], [], fun _ => .nil, .nil, FD.bindsN hb⟩
end
theorem hCX_end {P : Program} {w : World} : ∀ (H : Hp) (s : Shared) (e : Value) (s' : Shared), L2.CX P w [] H s (fun _ _ _ => False) e s' → False := fun _ _ _ _ ⟨_, _, _, _, _, _, _, _, _, _, _, _, z⟩ => z
/-- the end of a law whose context hangs on the world -/
theorem end_w {l : PySem.W.OpenLaw} {n k : Nat} {q : Program} {loose : List Str} {XP : (Str → Option Value) → Heap → Prop} {YP : World → Heap → Prop} {d : DefRec} {x : Str}
    (hn : l.most = some n) (hn2 : n ≤ sizeLine) (hdf : d.params.defaults = []) (hr : Room k callerA)
    (G : ∀ (w : World) (mg : Str → Option Value) (fa : Addr) (h : Heap), YP w h → h.Ns mainGlobals mg → mg d.name = some (.ref fa) →
      ∃ (K : PySem.W.Frag) (fd : FuncData) (sp : Sp), K.In h ∧ (∀ (s : Shared) (u : Value), BindsTo s fd ⟨[u], []⟩ [(x, u)]) ∧
        (∀ (H : Hp) (a : Addr) (ns : List Int), ns.length ≤ n → SqL K H a (ns.map V.int) → sp [.ref a] H (fun v _ => v = .bl true) fun _ _ _ => False) ∧
        ∀ base : Heap, FnOk l.prog w K mg base (L2.CX l.prog w) k fa fd [x] sp) : PySem.W.WalkO q loose XP YP l.row.toRowW d [] (fun f vs => PySem.call f vs) := by
  refine Att.attach_call hn hdf fun w s₀ s₁ mg mb fa o pm cd doc a vs ns T Y _ _ hcd hmg hobj hints hlen hg => ?_
  obtain ⟨K, fd, sp, hK, hb, hsp, hF⟩ := G w mg fa _ Y T.T.g hmg
  exact law_call hK T.T.g T.T.b T.T.builtins T.T.nolimit hg hobj hints (Nat.le_trans hlen hn2) hr (fun base _ _ => hF base) hb (fun H _ hS => hsp H a ns hlen hS) fun H e s' => hCX_end H s₁ e s'
end PD
namespace PD
open PySem PySem.Spec L2

/-! ### evaluation of denotations -/
section
variable {ρ ρ1 : Env} {d e : D} {c : Str} {fa fb fc : Env → Out D} {ft fu : Env → Out Bool} {g : D → D → Option D} {fs : Env → Out (List D)} {ds : List D} {f h : Env → RS} {i : Nat}
def obind {α β : Type} (x : Out α) (f : α → Env → Out β) : Out β := match x with
  | .ok a ρ => f a ρ
  | .err c ρ => .err c ρ
  | .bad => .bad
@[simp] theorem e_bok {α β : Type} (a : α) (ρ : Env) (f : α → Env → Out β) : obind (Out.ok a ρ) f = f a ρ := (rfl)
@[simp] theorem e_berr {α β : Type} (c : Str) (ρ : Env) (f : α → Env → Out β) : obind (Out.err c ρ : Out α) f = .err c ρ := (rfl)
@[simp] theorem e_bbad {α β : Type} (f : α → Env → Out β) : obind (Out.bad : Out α) f = .bad := (rfl)
@[simp] theorem e_C : dC d ρ = .ok d ρ := (rfl)
@[simp] theorem e_Var : dVar i ρ = match ρ[i]? with | some (some (.fro d)) => .ok d ρ | some (some (.own d)) => .ok d (ρ.set i (some (.fro d))) | _ => .bad := (rfl)
@[simp] theorem e_Top : dTop i ρ = match ρ[i]? with | some (some (.fro d)) => .ok d ρ | some (some (.own d)) => .ok d ρ | some (some (.arg d)) => .ok d ρ | _ => .bad := (rfl)
@[simp] theorem e_lift {o : Option D} : lift o ρ = match o with | some c => .ok c ρ | none => .bad := (rfl)
@[simp] theorem e_Op : dOp g fa fb ρ = obind (fa ρ) fun d ρ1 => obind (fb ρ1) fun e ρ2 => lift (g d e) ρ2 := (rfl)
@[simp] theorem e_Un {g : D → Option D} : dUn g fa ρ = obind (fa ρ) fun d ρ1 => lift (g d) ρ1 := (rfl)
@[simp] theorem e_Test : dTest fa ρ = obind (fa ρ) fun d ρ1 => match d with | .bl c => .ok c ρ1 | _ => .bad := (rfl)
@[simp] theorem e_AndT : dAndT ft fu ρ = obind (ft ρ) fun c ρ1 => if c = true then fu ρ1 else .ok false ρ1 := (rfl)
@[simp] theorem e_OrT : dOrT ft fu ρ = obind (ft ρ) fun c ρ1 => if c = true then .ok true ρ1 else fu ρ1 := (rfl)
@[simp] theorem e_NotT : dNotT ft ρ = obind (ft ρ) fun c ρ1 => .ok (!c) ρ1 := (rfl)
@[simp] theorem e_Tru : dTru fa ρ = obind (fa ρ) fun d ρ1 => match truD d with | some c => .ok c ρ1 | none => .bad := (rfl)
@[simp] theorem e_And : dAnd fa fb ρ = obind (fa ρ) fun d ρ1 => match truD d with | some true => fb ρ1 | some false => .ok d ρ1 | none => .bad := (rfl)
@[simp] theorem e_Or : dOr fa fb ρ = obind (fa ρ) fun d ρ1 => match truD d with | some true => .ok d ρ1 | some false => fb ρ1 | none => .bad := (rfl)
@[simp] theorem e_Not : dNot fa ρ = obind (fa ρ) fun d ρ1 => match truD d with | some c => .ok (.bl (!c)) ρ1 | none => .bad := (rfl)
@[simp] theorem e_If : dIf ft fa fb ρ = obind (ft ρ) fun c ρ1 => if c = true then fa ρ1 else fb ρ1 := (rfl)
@[simp] theorem e_NoPart : dNoPart ρ = .ok none ρ := (rfl)
@[simp] theorem e_Part : dPart fa ρ = obind (fa ρ) fun d ρ1 => match d with | .int i => .ok (some i) ρ1 | _ => .bad := (rfl)
@[simp] theorem e_Sl {g : Option Int → Option Int → D → Option D} {fl fh : Env → Out (Option Int)} : dSl g fa fl fh ρ = obind (fa ρ) fun d ρ1 => obind (fl ρ1) fun lo ρ2 => obind (fh ρ2) fun hi ρ3 => lift (g lo hi d) ρ3 := (rfl)
@[simp] theorem e_Nil : dNil ρ = .ok [] ρ := (rfl)
@[simp] theorem e_Cons {fr : Env → Out (List D)} : dCons fa fr ρ = obind (fa ρ) fun d ρ1 => obind (fr ρ1) fun ds ρ2 => .ok (d :: ds) ρ2 := (rfl)
@[simp] theorem e_Lst : dLst fs ρ = obind (fs ρ) fun ds ρ1 => if ds.length ≤ sizeLine then .ok (.lst ds) ρ1 else .bad := (rfl)
@[simp] theorem e_Tup : dTup fs ρ = obind (fs ρ) fun ds ρ1 => if ds.length ≤ sizeLine then .ok (.tup ds) ρ1 else .bad := (rfl)
@[simp] theorem e_CB {g : List D → Option D} : dCB g fs ρ = obind (fs ρ) fun ds ρ1 => lift (g ds) ρ1 := (rfl)
@[simp] theorem e_Seq : dSeq fa ρ = obind (fa ρ) fun d ρ1 => match seqD d with | some l => .ok l ρ1 | none => .bad := (rfl)
@[simp] theorem e_Rng1 : dRng1 fs ρ = obind (fs ρ) fun ds ρ1 => match ds with | [.int n] => if -(2 ^ 62) ≤ n ∧ n < 2 ^ 62 then .ok (rangeL 0 n.toNat) ρ1 else .bad | _ => .bad := (rfl)
@[simp] theorem e_Rng2 : dRng2 fs ρ = obind (fs ρ) fun ds ρ1 => match ds with | [.int i, .int j] => if -(2 ^ 62) ≤ i ∧ i < 2 ^ 62 ∧ -(2 ^ 62) ≤ j ∧ j < 2 ^ 62 then .ok (rangeL i (j - i).toNat) ρ1 else .bad | _ => .bad := (rfl)
@[simp] theorem e_Chain {g' : D → D → Option D} : dChain g g' fa fb fc ρ = obind (fa ρ) fun d ρ1 => obind (fb ρ1) fun e ρ2 => match g d e with | some (.bl true) => obind (fc ρ2) fun f ρ3 => lift (g' e f) ρ3 | some (.bl false) => .ok (.bl false) ρ2 | _ => .bad := by
  unfold dChain
  rfl
@[simp] theorem e_Call {df : List D → Rr} {dvs : List D} : dCall df dvs fs ρ = obind (fs ρ) fun ds ρ1 => match df (ds ++ dvs) with | .ok d => .ok d ρ1 | .err c => .err c ρ1 | .bad => .bad := (rfl)
@[simp] theorem e_CallM {df : D → List D → Rm} : dCallM i df fs ρ = match slotD ρ i with
  | some _ => obind (fs ρ) fun ds ρ1 => match slotD ρ1 i with
    | some s => match df s ds with
      | .ok d s' => .ok d (putSl ρ1 i s')
      | _ => .bad
    | none => .bad
  | none => .bad := (rfl)
@[simp] theorem e_slotD : slotD ρ i = match ρ[i]? with | some (some (.own d)) => some d | some (some (.arg d)) => some d | _ => none := (rfl)
@[simp] theorem e_putSl : putSl ρ i d = match ρ[i]? with | some (some (.arg _)) => ρ.set i (some (.arg d)) | _ => ρ.set i (some (.own d)) := (rfl)
@[simp] theorem e_sNil : sNil ρ = .nx ρ := (rfl)
@[simp] theorem e_sSeq : sSeq f h ρ = match f ρ with | .nx ρ1 => h ρ1 | r => r := by
  unfold sSeq
  cases f ρ <;> rfl
@[simp] theorem e_sE_ok {α : Type} (a : α) (k : α → Env → RS) : sE (.ok a ρ) k = k a ρ := (rfl)
@[simp] theorem e_sE_bad {α : Type} (k : α → Env → RS) : sE .bad k = .bad := (rfl)
@[simp] theorem e_sE_err {α : Type} (k : α → Env → RS) : sE (.err c ρ) k = .err c ρ := (rfl)
@[simp] theorem e_sSet : sSet i fa ρ = sE (fa ρ) fun d ρ1 => if i < ρ1.length then .nx (ρ1.set i (some (.fro d))) else .bad := (rfl)
@[simp] theorem e_sSetO : sSetO i fa ρ = sE (fa ρ) fun d ρ1 => if i < ρ1.length then .nx (ρ1.set i (some (.own d))) else .bad := (rfl)
@[simp] theorem e_sAsg {gg : D → Env → Option Env} : sAsg fa gg ρ = sE (fa ρ) fun d ρ1 => match gg d ρ1 with | some ρ2 => .nx ρ2 | none => .bad := (rfl)
@[simp] theorem e_sDrop : sDrop fa ρ = sE (fa ρ) fun _ ρ1 => .nx ρ1 := (rfl)
@[simp] theorem e_sRet : sRet fa ρ = sE (fa ρ) fun d ρ1 => .rt d ρ1 := (rfl)
@[simp] theorem e_sIf : sIf ft f h ρ = sE (ft ρ) fun c ρ1 => if c = true then f ρ1 else h ρ1 := (rfl)
@[simp] theorem e_sBad : sBad ρ = .bad := (rfl)
@[simp] theorem e_sApp : sApp i fa ρ = match slotD ρ i with
  | some (.lst _) => sE (fa ρ) fun d ρ1 => match slotD ρ1 i with
    | some (.lst l) => if l.length < sizeLine then .nx (putSl ρ1 i (.lst (l ++ [d]))) else .bad
    | _ => .bad
  | _ => .bad := (rfl)
@[simp] theorem e_sPut {fk fv : Env → Out D} : sPut i fk fv ρ = sE (fv ρ) fun d ρ1 => match slotD ρ1 i with
  | some _ => sE (fk ρ1) fun k ρ2 => match slotD ρ2 i with
    | some c => match setD c k d with
      | some c' => .nx (putSl ρ2 i c')
      | none => .bad
    | none => .bad
  | none => .bad := (rfl)
@[simp] theorem e_gN : gN i d ρ = if i < ρ.length then some (ρ.set i (some (.fro d))) else none := (rfl)
@[simp] theorem e_gsNil : gsNil [] ρ = some ρ := (rfl)
@[simp] theorem e_gsCons {g : D → Env → Option Env} {gs : List D → Env → Option Env} {r : List D} : gsCons g gs (d :: r) ρ = match g d ρ with | some ρ1 => gs r ρ1 | none => none := (rfl)
@[simp] theorem e_gTup {n : Nat} {gs : List D → Env → Option Env} {l : List D} : gTupD n gs (.tup l) ρ = if l.length = n then gs l ρ else none := (rfl)
@[simp] theorem e_wipe0 : wipeE ρ [] = ρ := (rfl)
@[simp] theorem e_wipe1 {v : Nat} {vs : List Nat} : wipeE ρ (v :: vs) = (wipeE ρ vs).set v none := (rfl)
@[simp] theorem e_rest0 : restE ρ ρ1 [] = ρ1 := (rfl)
@[simp] theorem e_rest1 {v : Nat} {vs : List Nat} : restE ρ ρ1 (v :: vs) = match ρ[v]? with | some s => (restE ρ ρ1 vs).set v s | none => restE ρ ρ1 vs := (rfl)
@[simp] theorem e_chk0 : chkE ρ [] = true := (rfl)
@[simp] theorem e_chk1 {v : Nat} {vs : List Nat} : chkE ρ (v :: vs) = ((match ρ[v]? with | some (some s) => !s.ex | _ => true) && chkE ρ vs) := (rfl)
@[simp] theorem e_exf : (Sl.fro d).ex = false := (rfl)
@[simp] theorem e_exo : (Sl.own d).ex = true := (rfl)
@[simp] theorem e_exa : (Sl.arg d).ex = true := (rfl)
end
/-! places of a slot list -/
section
variable {α : Type} {a v : α} {l : List α}
variable {x0 x1 x2 x3 x4 x5 x6 x7 x8 x9 x10 x11 x12 x13 x14 x15 x16 x17 x18 x19 x20 x21 x22 x23 x24 x25 x26 x27 x28 x29 x30 x31 x32 x33 x34 x35 x36 x37 x38 x39 x40 : α}
@[simp] theorem at0 : (a :: l)[0]? = some a := (rfl)
@[simp] theorem at1 : (x0 :: a :: l)[1]? = some a := (rfl)
@[simp] theorem at2 : (x0 :: x1 :: a :: l)[2]? = some a := (rfl)
@[simp] theorem at3 : (x0 :: x1 :: x2 :: a :: l)[3]? = some a := (rfl)
@[simp] theorem at4 : (x0 :: x1 :: x2 :: x3 :: a :: l)[4]? = some a := (rfl)
@[simp] theorem at5 : (x0 :: x1 :: x2 :: x3 :: x4 :: a :: l)[5]? = some a := (rfl)
@[simp] theorem at6 : (x0 :: x1 :: x2 :: x3 :: x4 :: x5 :: a :: l)[6]? = some a := (rfl)
@[simp] theorem at7 : (x0 :: x1 :: x2 :: x3 :: x4 :: x5 :: x6 :: a :: l)[7]? = some a := (rfl)
@[simp] theorem at8 : (x0 :: x1 :: x2 :: x3 :: x4 :: x5 :: x6 :: x7 :: a :: l)[8]? = some a := (rfl)
@[simp] theorem at9 : (x0 :: x1 :: x2 :: x3 :: x4 :: x5 :: x6 :: x7 :: x8 :: a :: l)[9]? = some a := (rfl)
@[simp] theorem at10 : (x0 :: x1 :: x2 :: x3 :: x4 :: x5 :: x6 :: x7 :: x8 :: x9 :: a :: l)[10]? = some a := (rfl)
@[simp] theorem at11 : (x0 :: x1 :: x2 :: x3 :: x4 :: x5 :: x6 :: x7 :: x8 :: x9 :: x10 :: a :: l)[11]? = some a := (rfl)
@[simp] theorem at12 : (x0 :: x1 :: x2 :: x3 :: x4 :: x5 :: x6 :: x7 :: x8 :: x9 :: x10 :: x11 :: a :: l)[12]? = some a := (rfl)
@[simp] theorem at13 : (x0 :: x1 :: x2 :: x3 :: x4 :: x5 :: x6 :: x7 :: x8 :: x9 :: x10 :: x11 :: x12 :: a :: l)[13]? = some a := (rfl)
@[simp] theorem at14 : (x0 :: x1 :: x2 :: x3 :: x4 :: x5 :: x6 :: x7 :: x8 :: x9 :: x10 :: x11 :: x12 :: x13 :: a :: l)[14]? = some a := (rfl)
@[simp] theorem at15 : (x0 :: x1 :: x2 :: x3 :: x4 :: x5 :: x6 :: x7 :: x8 :: x9 :: x10 :: x11 :: x12 :: x13 :: x14 :: a :: l)[15]? = some a := (rfl)
@[simp] theorem at16 : (x0 :: x1 :: x2 :: x3 :: x4 :: x5 :: x6 :: x7 :: x8 :: x9 :: x10 :: x11 :: x12 :: x13 :: x14 :: x15 :: a :: l)[16]? = some a := (rfl)
@[simp] theorem at17 : (x0 :: x1 :: x2 :: x3 :: x4 :: x5 :: x6 :: x7 :: x8 :: x9 :: x10 :: x11 :: x12 :: x13 :: x14 :: x15 :: x16 :: a :: l)[17]? = some a := (rfl)
@[simp] theorem at18 : (x0 :: x1 :: x2 :: x3 :: x4 :: x5 :: x6 :: x7 :: x8 :: x9 :: x10 :: x11 :: x12 :: x13 :: x14 :: x15 :: x16 :: x17 :: a :: l)[18]? = some a := (rfl)
@[simp] theorem at19 : (x0 :: x1 :: x2 :: x3 :: x4 :: x5 :: x6 :: x7 :: x8 :: x9 :: x10 :: x11 :: x12 :: x13 :: x14 :: x15 :: x16 :: x17 :: x18 :: a :: l)[19]? = some a := (rfl)
@[simp] theorem at20 : (x0 :: x1 :: x2 :: x3 :: x4 :: x5 :: x6 :: x7 :: x8 :: x9 :: x10 :: x11 :: x12 :: x13 :: x14 :: x15 :: x16 :: x17 :: x18 :: x19 :: a :: l)[20]? = some a := (rfl)
@[simp] theorem at21 : (x0 :: x1 :: x2 :: x3 :: x4 :: x5 :: x6 :: x7 :: x8 :: x9 :: x10 :: x11 :: x12 :: x13 :: x14 :: x15 :: x16 :: x17 :: x18 :: x19 :: x20 :: a :: l)[21]? = some a := (rfl)
@[simp] theorem at22 : (x0 :: x1 :: x2 :: x3 :: x4 :: x5 :: x6 :: x7 :: x8 :: x9 :: x10 :: x11 :: x12 :: x13 :: x14 :: x15 :: x16 :: x17 :: x18 :: x19 :: x20 :: x21 :: a :: l)[22]? = some a := (rfl)
@[simp] theorem at23 : (x0 :: x1 :: x2 :: x3 :: x4 :: x5 :: x6 :: x7 :: x8 :: x9 :: x10 :: x11 :: x12 :: x13 :: x14 :: x15 :: x16 :: x17 :: x18 :: x19 :: x20 :: x21 :: x22 :: a :: l)[23]? = some a := (rfl)
@[simp] theorem at24 : (x0 :: x1 :: x2 :: x3 :: x4 :: x5 :: x6 :: x7 :: x8 :: x9 :: x10 :: x11 :: x12 :: x13 :: x14 :: x15 :: x16 :: x17 :: x18 :: x19 :: x20 :: x21 :: x22 :: x23 :: a :: l)[24]? = some a := (rfl)
@[simp] theorem at25 : (x0 :: x1 :: x2 :: x3 :: x4 :: x5 :: x6 :: x7 :: x8 :: x9 :: x10 :: x11 :: x12 :: x13 :: x14 :: x15 :: x16 :: x17 :: x18 :: x19 :: x20 :: x21 :: x22 :: x23 :: x24 :: a :: l)[25]? = some a := (rfl)
@[simp] theorem at26 : (x0 :: x1 :: x2 :: x3 :: x4 :: x5 :: x6 :: x7 :: x8 :: x9 :: x10 :: x11 :: x12 :: x13 :: x14 :: x15 :: x16 :: x17 :: x18 :: x19 :: x20 :: x21 :: x22 :: x23 :: x24 :: x25 :: a :: l)[26]? = some a := (rfl)
@[simp] theorem at27 : (x0 :: x1 :: x2 :: x3 :: x4 :: x5 :: x6 :: x7 :: x8 :: x9 :: x10 :: x11 :: x12 :: x13 :: x14 :: x15 :: x16 :: x17 :: x18 :: x19 :: x20 :: x21 :: x22 :: x23 :: x24 :: x25 :: x26 :: a :: l)[27]? = some a := (rfl)
@[simp] theorem at28 : (x0 :: x1 :: x2 :: x3 :: x4 :: x5 :: x6 :: x7 :: x8 :: x9 :: x10 :: x11 :: x12 :: x13 :: x14 :: x15 :: x16 :: x17 :: x18 :: x19 :: x20 :: x21 :: x22 :: x23 :: x24 :: x25 :: x26 :: x27 :: a :: l)[28]? = some a := (rfl)
@[simp] theorem at29 : (x0 :: x1 :: x2 :: x3 :: x4 :: x5 :: x6 :: x7 :: x8 :: x9 :: x10 :: x11 :: x12 :: x13 :: x14 :: x15 :: x16 :: x17 :: x18 :: x19 :: x20 :: x21 :: x22 :: x23 :: x24 :: x25 :: x26 :: x27 :: x28 :: a :: l)[29]? = some a := (rfl)
@[simp] theorem at30 : (x0 :: x1 :: x2 :: x3 :: x4 :: x5 :: x6 :: x7 :: x8 :: x9 :: x10 :: x11 :: x12 :: x13 :: x14 :: x15 :: x16 :: x17 :: x18 :: x19 :: x20 :: x21 :: x22 :: x23 :: x24 :: x25 :: x26 :: x27 :: x28 :: x29 :: a :: l)[30]? = some a := (rfl)
@[simp] theorem at31 : (x0 :: x1 :: x2 :: x3 :: x4 :: x5 :: x6 :: x7 :: x8 :: x9 :: x10 :: x11 :: x12 :: x13 :: x14 :: x15 :: x16 :: x17 :: x18 :: x19 :: x20 :: x21 :: x22 :: x23 :: x24 :: x25 :: x26 :: x27 :: x28 :: x29 :: x30 :: a :: l)[31]? = some a := (rfl)
@[simp] theorem at32 : (x0 :: x1 :: x2 :: x3 :: x4 :: x5 :: x6 :: x7 :: x8 :: x9 :: x10 :: x11 :: x12 :: x13 :: x14 :: x15 :: x16 :: x17 :: x18 :: x19 :: x20 :: x21 :: x22 :: x23 :: x24 :: x25 :: x26 :: x27 :: x28 :: x29 :: x30 :: x31 :: a :: l)[32]? = some a := (rfl)
@[simp] theorem at33 : (x0 :: x1 :: x2 :: x3 :: x4 :: x5 :: x6 :: x7 :: x8 :: x9 :: x10 :: x11 :: x12 :: x13 :: x14 :: x15 :: x16 :: x17 :: x18 :: x19 :: x20 :: x21 :: x22 :: x23 :: x24 :: x25 :: x26 :: x27 :: x28 :: x29 :: x30 :: x31 :: x32 :: a :: l)[33]? = some a := (rfl)
@[simp] theorem at34 : (x0 :: x1 :: x2 :: x3 :: x4 :: x5 :: x6 :: x7 :: x8 :: x9 :: x10 :: x11 :: x12 :: x13 :: x14 :: x15 :: x16 :: x17 :: x18 :: x19 :: x20 :: x21 :: x22 :: x23 :: x24 :: x25 :: x26 :: x27 :: x28 :: x29 :: x30 :: x31 :: x32 :: x33 :: a :: l)[34]? = some a := (rfl)
@[simp] theorem at35 : (x0 :: x1 :: x2 :: x3 :: x4 :: x5 :: x6 :: x7 :: x8 :: x9 :: x10 :: x11 :: x12 :: x13 :: x14 :: x15 :: x16 :: x17 :: x18 :: x19 :: x20 :: x21 :: x22 :: x23 :: x24 :: x25 :: x26 :: x27 :: x28 :: x29 :: x30 :: x31 :: x32 :: x33 :: x34 :: a :: l)[35]? = some a := (rfl)
@[simp] theorem at36 : (x0 :: x1 :: x2 :: x3 :: x4 :: x5 :: x6 :: x7 :: x8 :: x9 :: x10 :: x11 :: x12 :: x13 :: x14 :: x15 :: x16 :: x17 :: x18 :: x19 :: x20 :: x21 :: x22 :: x23 :: x24 :: x25 :: x26 :: x27 :: x28 :: x29 :: x30 :: x31 :: x32 :: x33 :: x34 :: x35 :: a :: l)[36]? = some a := (rfl)
@[simp] theorem at37 : (x0 :: x1 :: x2 :: x3 :: x4 :: x5 :: x6 :: x7 :: x8 :: x9 :: x10 :: x11 :: x12 :: x13 :: x14 :: x15 :: x16 :: x17 :: x18 :: x19 :: x20 :: x21 :: x22 :: x23 :: x24 :: x25 :: x26 :: x27 :: x28 :: x29 :: x30 :: x31 :: x32 :: x33 :: x34 :: x35 :: x36 :: a :: l)[37]? = some a := (rfl)
@[simp] theorem at38 : (x0 :: x1 :: x2 :: x3 :: x4 :: x5 :: x6 :: x7 :: x8 :: x9 :: x10 :: x11 :: x12 :: x13 :: x14 :: x15 :: x16 :: x17 :: x18 :: x19 :: x20 :: x21 :: x22 :: x23 :: x24 :: x25 :: x26 :: x27 :: x28 :: x29 :: x30 :: x31 :: x32 :: x33 :: x34 :: x35 :: x36 :: x37 :: a :: l)[38]? = some a := (rfl)
@[simp] theorem at39 : (x0 :: x1 :: x2 :: x3 :: x4 :: x5 :: x6 :: x7 :: x8 :: x9 :: x10 :: x11 :: x12 :: x13 :: x14 :: x15 :: x16 :: x17 :: x18 :: x19 :: x20 :: x21 :: x22 :: x23 :: x24 :: x25 :: x26 :: x27 :: x28 :: x29 :: x30 :: x31 :: x32 :: x33 :: x34 :: x35 :: x36 :: x37 :: x38 :: a :: l)[39]? = some a := (rfl)
@[simp] theorem set0 : (a :: l).set 0 v = v :: l := (rfl)
@[simp] theorem set1 : (x0 :: a :: l).set 1 v = x0 :: v :: l := (rfl)
@[simp] theorem set2 : (x0 :: x1 :: a :: l).set 2 v = x0 :: x1 :: v :: l := (rfl)
@[simp] theorem set3 : (x0 :: x1 :: x2 :: a :: l).set 3 v = x0 :: x1 :: x2 :: v :: l := (rfl)
@[simp] theorem set4 : (x0 :: x1 :: x2 :: x3 :: a :: l).set 4 v = x0 :: x1 :: x2 :: x3 :: v :: l := (rfl)
@[simp] theorem set5 : (x0 :: x1 :: x2 :: x3 :: x4 :: a :: l).set 5 v = x0 :: x1 :: x2 :: x3 :: x4 :: v :: l := (rfl)
@[simp] theorem set6 : (x0 :: x1 :: x2 :: x3 :: x4 :: x5 :: a :: l).set 6 v = x0 :: x1 :: x2 :: x3 :: x4 :: x5 :: v :: l := (rfl)
@[simp] theorem set7 : (x0 :: x1 :: x2 :: x3 :: x4 :: x5 :: x6 :: a :: l).set 7 v = x0 :: x1 :: x2 :: x3 :: x4 :: x5 :: x6 :: v :: l := (rfl)
@[simp] theorem set8 : (x0 :: x1 :: x2 :: x3 :: x4 :: x5 :: x6 :: x7 :: a :: l).set 8 v = x0 :: x1 :: x2 :: x3 :: x4 :: x5 :: x6 :: x7 :: v :: l := (rfl)
@[simp] theorem set9 : (x0 :: x1 :: x2 :: x3 :: x4 :: x5 :: x6 :: x7 :: x8 :: a :: l).set 9 v = x0 :: x1 :: x2 :: x3 :: x4 :: x5 :: x6 :: x7 :: x8 :: v :: l := (rfl)
@[simp] theorem set10 : (x0 :: x1 :: x2 :: x3 :: x4 :: x5 :: x6 :: x7 :: x8 :: x9 :: a :: l).set 10 v = x0 :: x1 :: x2 :: x3 :: x4 :: x5 :: x6 :: x7 :: x8 :: x9 :: v :: l := (rfl)
@[simp] theorem set11 : (x0 :: x1 :: x2 :: x3 :: x4 :: x5 :: x6 :: x7 :: x8 :: x9 :: x10 :: a :: l).set 11 v = x0 :: x1 :: x2 :: x3 :: x4 :: x5 :: x6 :: x7 :: x8 :: x9 :: x10 :: v :: l := (rfl)
@[simp] theorem set12 : (x0 :: x1 :: x2 :: x3 :: x4 :: x5 :: x6 :: x7 :: x8 :: x9 :: x10 :: x11 :: a :: l).set 12 v = x0 :: x1 :: x2 :: x3 :: x4 :: x5 :: x6 :: x7 :: x8 :: x9 :: x10 :: x11 :: v :: l := (rfl)
@[simp] theorem set13 : (x0 :: x1 :: x2 :: x3 :: x4 :: x5 :: x6 :: x7 :: x8 :: x9 :: x10 :: x11 :: x12 :: a :: l).set 13 v = x0 :: x1 :: x2 :: x3 :: x4 :: x5 :: x6 :: x7 :: x8 :: x9 :: x10 :: x11 :: x12 :: v :: l := (rfl)
@[simp] theorem set14 : (x0 :: x1 :: x2 :: x3 :: x4 :: x5 :: x6 :: x7 :: x8 :: x9 :: x10 :: x11 :: x12 :: x13 :: a :: l).set 14 v = x0 :: x1 :: x2 :: x3 :: x4 :: x5 :: x6 :: x7 :: x8 :: x9 :: x10 :: x11 :: x12 :: x13 :: v :: l := (rfl)
@[simp] theorem set15 : (x0 :: x1 :: x2 :: x3 :: x4 :: x5 :: x6 :: x7 :: x8 :: x9 :: x10 :: x11 :: x12 :: x13 :: x14 :: a :: l).set 15 v = x0 :: x1 :: x2 :: x3 :: x4 :: x5 :: x6 :: x7 :: x8 :: x9 :: x10 :: x11 :: x12 :: x13 :: x14 :: v :: l := (rfl)
@[simp] theorem set16 : (x0 :: x1 :: x2 :: x3 :: x4 :: x5 :: x6 :: x7 :: x8 :: x9 :: x10 :: x11 :: x12 :: x13 :: x14 :: x15 :: a :: l).set 16 v = x0 :: x1 :: x2 :: x3 :: x4 :: x5 :: x6 :: x7 :: x8 :: x9 :: x10 :: x11 :: x12 :: x13 :: x14 :: x15 :: v :: l := (rfl)
@[simp] theorem set17 : (x0 :: x1 :: x2 :: x3 :: x4 :: x5 :: x6 :: x7 :: x8 :: x9 :: x10 :: x11 :: x12 :: x13 :: x14 :: x15 :: x16 :: a :: l).set 17 v = x0 :: x1 :: x2 :: x3 :: x4 :: x5 :: x6 :: x7 :: x8 :: x9 :: x10 :: x11 :: x12 :: x13 :: x14 :: x15 :: x16 :: v :: l := (rfl)
@[simp] theorem set18 : (x0 :: x1 :: x2 :: x3 :: x4 :: x5 :: x6 :: x7 :: x8 :: x9 :: x10 :: x11 :: x12 :: x13 :: x14 :: x15 :: x16 :: x17 :: a :: l).set 18 v = x0 :: x1 :: x2 :: x3 :: x4 :: x5 :: x6 :: x7 :: x8 :: x9 :: x10 :: x11 :: x12 :: x13 :: x14 :: x15 :: x16 :: x17 :: v :: l := (rfl)
@[simp] theorem set19 : (x0 :: x1 :: x2 :: x3 :: x4 :: x5 :: x6 :: x7 :: x8 :: x9 :: x10 :: x11 :: x12 :: x13 :: x14 :: x15 :: x16 :: x17 :: x18 :: a :: l).set 19 v = x0 :: x1 :: x2 :: x3 :: x4 :: x5 :: x6 :: x7 :: x8 :: x9 :: x10 :: x11 :: x12 :: x13 :: x14 :: x15 :: x16 :: x17 :: x18 :: v :: l := (rfl)
@[simp] theorem set20 : (x0 :: x1 :: x2 :: x3 :: x4 :: x5 :: x6 :: x7 :: x8 :: x9 :: x10 :: x11 :: x12 :: x13 :: x14 :: x15 :: x16 :: x17 :: x18 :: x19 :: a :: l).set 20 v = x0 :: x1 :: x2 :: x3 :: x4 :: x5 :: x6 :: x7 :: x8 :: x9 :: x10 :: x11 :: x12 :: x13 :: x14 :: x15 :: x16 :: x17 :: x18 :: x19 :: v :: l := (rfl)
@[simp] theorem set21 : (x0 :: x1 :: x2 :: x3 :: x4 :: x5 :: x6 :: x7 :: x8 :: x9 :: x10 :: x11 :: x12 :: x13 :: x14 :: x15 :: x16 :: x17 :: x18 :: x19 :: x20 :: a :: l).set 21 v = x0 :: x1 :: x2 :: x3 :: x4 :: x5 :: x6 :: x7 :: x8 :: x9 :: x10 :: x11 :: x12 :: x13 :: x14 :: x15 :: x16 :: x17 :: x18 :: x19 :: x20 :: v :: l := (rfl)
@[simp] theorem set22 : (x0 :: x1 :: x2 :: x3 :: x4 :: x5 :: x6 :: x7 :: x8 :: x9 :: x10 :: x11 :: x12 :: x13 :: x14 :: x15 :: x16 :: x17 :: x18 :: x19 :: x20 :: x21 :: a :: l).set 22 v = x0 :: x1 :: x2 :: x3 :: x4 :: x5 :: x6 :: x7 :: x8 :: x9 :: x10 :: x11 :: x12 :: x13 :: x14 :: x15 :: x16 :: x17 :: x18 :: x19 :: x20 :: x21 :: v :: l := (rfl)
@[simp] theorem set23 : (x0 :: x1 :: x2 :: x3 :: x4 :: x5 :: x6 :: x7 :: x8 :: x9 :: x10 :: x11 :: x12 :: x13 :: x14 :: x15 :: x16 :: x17 :: x18 :: x19 :: x20 :: x21 :: x22 :: a :: l).set 23 v = x0 :: x1 :: x2 :: x3 :: x4 :: x5 :: x6 :: x7 :: x8 :: x9 :: x10 :: x11 :: x12 :: x13 :: x14 :: x15 :: x16 :: x17 :: x18 :: x19 :: x20 :: x21 :: x22 :: v :: l := (rfl)
@[simp] theorem set24 : (x0 :: x1 :: x2 :: x3 :: x4 :: x5 :: x6 :: x7 :: x8 :: x9 :: x10 :: x11 :: x12 :: x13 :: x14 :: x15 :: x16 :: x17 :: x18 :: x19 :: x20 :: x21 :: x22 :: x23 :: a :: l).set 24 v = x0 :: x1 :: x2 :: x3 :: x4 :: x5 :: x6 :: x7 :: x8 :: x9 :: x10 :: x11 :: x12 :: x13 :: x14 :: x15 :: x16 :: x17 :: x18 :: x19 :: x20 :: x21 :: x22 :: x23 :: v :: l := (rfl)
@[simp] theorem set25 : (x0 :: x1 :: x2 :: x3 :: x4 :: x5 :: x6 :: x7 :: x8 :: x9 :: x10 :: x11 :: x12 :: x13 :: x14 :: x15 :: x16 :: x17 :: x18 :: x19 :: x20 :: x21 :: x22 :: x23 :: x24 :: a :: l).set 25 v = x0 :: x1 :: x2 :: x3 :: x4 :: x5 :: x6 :: x7 :: x8 :: x9 :: x10 :: x11 :: x12 :: x13 :: x14 :: x15 :: x16 :: x17 :: x18 :: x19 :: x20 :: x21 :: x22 :: x23 :: x24 :: v :: l := (rfl)
@[simp] theorem set26 : (x0 :: x1 :: x2 :: x3 :: x4 :: x5 :: x6 :: x7 :: x8 :: x9 :: x10 :: x11 :: x12 :: x13 :: x14 :: x15 :: x16 :: x17 :: x18 :: x19 :: x20 :: x21 :: x22 :: x23 :: x24 :: x25 :: a :: l).set 26 v = x0 :: x1 :: x2 :: x3 :: x4 :: x5 :: x6 :: x7 :: x8 :: x9 :: x10 :: x11 :: x12 :: x13 :: x14 :: x15 :: x16 :: x17 :: x18 :: x19 :: x20 :: x21 :: x22 :: x23 :: x24 :: x25 :: v :: l := (rfl)
@[simp] theorem set27 : (x0 :: x1 :: x2 :: x3 :: x4 :: x5 :: x6 :: x7 :: x8 :: x9 :: x10 :: x11 :: x12 :: x13 :: x14 :: x15 :: x16 :: x17 :: x18 :: x19 :: x20 :: x21 :: x22 :: x23 :: x24 :: x25 :: x26 :: a :: l).set 27 v = x0 :: x1 :: x2 :: x3 :: x4 :: x5 :: x6 :: x7 :: x8 :: x9 :: x10 :: x11 :: x12 :: x13 :: x14 :: x15 :: x16 :: x17 :: x18 :: x19 :: x20 :: x21 :: x22 :: x23 :: x24 :: x25 :: x26 :: v :: l := (rfl)
@[simp] theorem set28 : (x0 :: x1 :: x2 :: x3 :: x4 :: x5 :: x6 :: x7 :: x8 :: x9 :: x10 :: x11 :: x12 :: x13 :: x14 :: x15 :: x16 :: x17 :: x18 :: x19 :: x20 :: x21 :: x22 :: x23 :: x24 :: x25 :: x26 :: x27 :: a :: l).set 28 v = x0 :: x1 :: x2 :: x3 :: x4 :: x5 :: x6 :: x7 :: x8 :: x9 :: x10 :: x11 :: x12 :: x13 :: x14 :: x15 :: x16 :: x17 :: x18 :: x19 :: x20 :: x21 :: x22 :: x23 :: x24 :: x25 :: x26 :: x27 :: v :: l := (rfl)
@[simp] theorem set29 : (x0 :: x1 :: x2 :: x3 :: x4 :: x5 :: x6 :: x7 :: x8 :: x9 :: x10 :: x11 :: x12 :: x13 :: x14 :: x15 :: x16 :: x17 :: x18 :: x19 :: x20 :: x21 :: x22 :: x23 :: x24 :: x25 :: x26 :: x27 :: x28 :: a :: l).set 29 v = x0 :: x1 :: x2 :: x3 :: x4 :: x5 :: x6 :: x7 :: x8 :: x9 :: x10 :: x11 :: x12 :: x13 :: x14 :: x15 :: x16 :: x17 :: x18 :: x19 :: x20 :: x21 :: x22 :: x23 :: x24 :: x25 :: x26 :: x27 :: x28 :: v :: l := (rfl)
@[simp] theorem set30 : (x0 :: x1 :: x2 :: x3 :: x4 :: x5 :: x6 :: x7 :: x8 :: x9 :: x10 :: x11 :: x12 :: x13 :: x14 :: x15 :: x16 :: x17 :: x18 :: x19 :: x20 :: x21 :: x22 :: x23 :: x24 :: x25 :: x26 :: x27 :: x28 :: x29 :: a :: l).set 30 v = x0 :: x1 :: x2 :: x3 :: x4 :: x5 :: x6 :: x7 :: x8 :: x9 :: x10 :: x11 :: x12 :: x13 :: x14 :: x15 :: x16 :: x17 :: x18 :: x19 :: x20 :: x21 :: x22 :: x23 :: x24 :: x25 :: x26 :: x27 :: x28 :: x29 :: v :: l := (rfl)
@[simp] theorem set31 : (x0 :: x1 :: x2 :: x3 :: x4 :: x5 :: x6 :: x7 :: x8 :: x9 :: x10 :: x11 :: x12 :: x13 :: x14 :: x15 :: x16 :: x17 :: x18 :: x19 :: x20 :: x21 :: x22 :: x23 :: x24 :: x25 :: x26 :: x27 :: x28 :: x29 :: x30 :: a :: l).set 31 v = x0 :: x1 :: x2 :: x3 :: x4 :: x5 :: x6 :: x7 :: x8 :: x9 :: x10 :: x11 :: x12 :: x13 :: x14 :: x15 :: x16 :: x17 :: x18 :: x19 :: x20 :: x21 :: x22 :: x23 :: x24 :: x25 :: x26 :: x27 :: x28 :: x29 :: x30 :: v :: l := (rfl)
@[simp] theorem set32 : (x0 :: x1 :: x2 :: x3 :: x4 :: x5 :: x6 :: x7 :: x8 :: x9 :: x10 :: x11 :: x12 :: x13 :: x14 :: x15 :: x16 :: x17 :: x18 :: x19 :: x20 :: x21 :: x22 :: x23 :: x24 :: x25 :: x26 :: x27 :: x28 :: x29 :: x30 :: x31 :: a :: l).set 32 v = x0 :: x1 :: x2 :: x3 :: x4 :: x5 :: x6 :: x7 :: x8 :: x9 :: x10 :: x11 :: x12 :: x13 :: x14 :: x15 :: x16 :: x17 :: x18 :: x19 :: x20 :: x21 :: x22 :: x23 :: x24 :: x25 :: x26 :: x27 :: x28 :: x29 :: x30 :: x31 :: v :: l := (rfl)
@[simp] theorem set33 : (x0 :: x1 :: x2 :: x3 :: x4 :: x5 :: x6 :: x7 :: x8 :: x9 :: x10 :: x11 :: x12 :: x13 :: x14 :: x15 :: x16 :: x17 :: x18 :: x19 :: x20 :: x21 :: x22 :: x23 :: x24 :: x25 :: x26 :: x27 :: x28 :: x29 :: x30 :: x31 :: x32 :: a :: l).set 33 v = x0 :: x1 :: x2 :: x3 :: x4 :: x5 :: x6 :: x7 :: x8 :: x9 :: x10 :: x11 :: x12 :: x13 :: x14 :: x15 :: x16 :: x17 :: x18 :: x19 :: x20 :: x21 :: x22 :: x23 :: x24 :: x25 :: x26 :: x27 :: x28 :: x29 :: x30 :: x31 :: x32 :: v :: l := (rfl)
@[simp] theorem set34 : (x0 :: x1 :: x2 :: x3 :: x4 :: x5 :: x6 :: x7 :: x8 :: x9 :: x10 :: x11 :: x12 :: x13 :: x14 :: x15 :: x16 :: x17 :: x18 :: x19 :: x20 :: x21 :: x22 :: x23 :: x24 :: x25 :: x26 :: x27 :: x28 :: x29 :: x30 :: x31 :: x32 :: x33 :: a :: l).set 34 v = x0 :: x1 :: x2 :: x3 :: x4 :: x5 :: x6 :: x7 :: x8 :: x9 :: x10 :: x11 :: x12 :: x13 :: x14 :: x15 :: x16 :: x17 :: x18 :: x19 :: x20 :: x21 :: x22 :: x23 :: x24 :: x25 :: x26 :: x27 :: x28 :: x29 :: x30 :: x31 :: x32 :: x33 :: v :: l := (rfl)
@[simp] theorem set35 : (x0 :: x1 :: x2 :: x3 :: x4 :: x5 :: x6 :: x7 :: x8 :: x9 :: x10 :: x11 :: x12 :: x13 :: x14 :: x15 :: x16 :: x17 :: x18 :: x19 :: x20 :: x21 :: x22 :: x23 :: x24 :: x25 :: x26 :: x27 :: x28 :: x29 :: x30 :: x31 :: x32 :: x33 :: x34 :: a :: l).set 35 v = x0 :: x1 :: x2 :: x3 :: x4 :: x5 :: x6 :: x7 :: x8 :: x9 :: x10 :: x11 :: x12 :: x13 :: x14 :: x15 :: x16 :: x17 :: x18 :: x19 :: x20 :: x21 :: x22 :: x23 :: x24 :: x25 :: x26 :: x27 :: x28 :: x29 :: x30 :: x31 :: x32 :: x33 :: x34 :: v :: l := (rfl)
@[simp] theorem set36 : (x0 :: x1 :: x2 :: x3 :: x4 :: x5 :: x6 :: x7 :: x8 :: x9 :: x10 :: x11 :: x12 :: x13 :: x14 :: x15 :: x16 :: x17 :: x18 :: x19 :: x20 :: x21 :: x22 :: x23 :: x24 :: x25 :: x26 :: x27 :: x28 :: x29 :: x30 :: x31 :: x32 :: x33 :: x34 :: x35 :: a :: l).set 36 v = x0 :: x1 :: x2 :: x3 :: x4 :: x5 :: x6 :: x7 :: x8 :: x9 :: x10 :: x11 :: x12 :: x13 :: x14 :: x15 :: x16 :: x17 :: x18 :: x19 :: x20 :: x21 :: x22 :: x23 :: x24 :: x25 :: x26 :: x27 :: x28 :: x29 :: x30 :: x31 :: x32 :: x33 :: x34 :: x35 :: v :: l := (rfl)
@[simp] theorem set37 : (x0 :: x1 :: x2 :: x3 :: x4 :: x5 :: x6 :: x7 :: x8 :: x9 :: x10 :: x11 :: x12 :: x13 :: x14 :: x15 :: x16 :: x17 :: x18 :: x19 :: x20 :: x21 :: x22 :: x23 :: x24 :: x25 :: x26 :: x27 :: x28 :: x29 :: x30 :: x31 :: x32 :: x33 :: x34 :: x35 :: x36 :: a :: l).set 37 v = x0 :: x1 :: x2 :: x3 :: x4 :: x5 :: x6 :: x7 :: x8 :: x9 :: x10 :: x11 :: x12 :: x13 :: x14 :: x15 :: x16 :: x17 :: x18 :: x19 :: x20 :: x21 :: x22 :: x23 :: x24 :: x25 :: x26 :: x27 :: x28 :: x29 :: x30 :: x31 :: x32 :: x33 :: x34 :: x35 :: x36 :: v :: l := (rfl)
@[simp] theorem set38 : (x0 :: x1 :: x2 :: x3 :: x4 :: x5 :: x6 :: x7 :: x8 :: x9 :: x10 :: x11 :: x12 :: x13 :: x14 :: x15 :: x16 :: x17 :: x18 :: x19 :: x20 :: x21 :: x22 :: x23 :: x24 :: x25 :: x26 :: x27 :: x28 :: x29 :: x30 :: x31 :: x32 :: x33 :: x34 :: x35 :: x36 :: x37 :: a :: l).set 38 v = x0 :: x1 :: x2 :: x3 :: x4 :: x5 :: x6 :: x7 :: x8 :: x9 :: x10 :: x11 :: x12 :: x13 :: x14 :: x15 :: x16 :: x17 :: x18 :: x19 :: x20 :: x21 :: x22 :: x23 :: x24 :: x25 :: x26 :: x27 :: x28 :: x29 :: x30 :: x31 :: x32 :: x33 :: x34 :: x35 :: x36 :: x37 :: v :: l := (rfl)
@[simp] theorem set39 : (x0 :: x1 :: x2 :: x3 :: x4 :: x5 :: x6 :: x7 :: x8 :: x9 :: x10 :: x11 :: x12 :: x13 :: x14 :: x15 :: x16 :: x17 :: x18 :: x19 :: x20 :: x21 :: x22 :: x23 :: x24 :: x25 :: x26 :: x27 :: x28 :: x29 :: x30 :: x31 :: x32 :: x33 :: x34 :: x35 :: x36 :: x37 :: x38 :: a :: l).set 39 v = x0 :: x1 :: x2 :: x3 :: x4 :: x5 :: x6 :: x7 :: x8 :: x9 :: x10 :: x11 :: x12 :: x13 :: x14 :: x15 :: x16 :: x17 :: x18 :: x19 :: x20 :: x21 :: x22 :: x23 :: x24 :: x25 :: x26 :: x27 :: x28 :: x29 :: x30 :: x31 :: x32 :: x33 :: x34 :: x35 :: x36 :: x37 :: x38 :: v :: l := (rfl)
end
end PD
namespace PD
open PySem PySem.Spec L2

/-! ### comprehensions and loops over encoded lists -/
theorem lc_map {α : Type} (enc : α → D) (p : α → Bool) (h : α → D) {vs : List Nat} {g : D → Env → Option Env} {ft : Env → Out Bool} {fe : Env → Out D} {ρ : Env} :
    ∀ (xs : List α), (∀ x ∈ xs, ∃ ρ2 ρ3, g (enc x) (wipeE ρ vs) = some ρ2 ∧ ft ρ2 = .ok (p x) ρ3 ∧ (p x = false → restE ρ ρ3 vs = ρ) ∧ (p x = true → ∃ ρ4, fe ρ3 = .ok (h x) ρ4 ∧ restE ρ ρ4 vs = ρ)) →
      lcL vs g ft fe (xs.map enc) ρ = some ((xs.filter p).map h, ρ)
  | [], _ => rfl
  | x :: xs, H => by
    obtain ⟨ρ2, ρ3, h1, h2, h3, h4⟩ := H x (List.mem_cons_self ..)
    have ih := lc_map enc p h (vs := vs) (g := g) (ft := ft) (fe := fe) (ρ := ρ) xs fun y hy => H y (List.mem_cons_of_mem _ hy)
    rw [List.map_cons, lcL, h1]
    dsimp only
    rw [h2]
    cases hp : p x with
    | false =>
      dsimp only
      rw [h3 hp, ih, List.filter_cons_of_neg (by simp [hp])]
    | true =>
      obtain ⟨ρ4, h5, h6⟩ := h4 hp
      dsimp only
      rw [h5]
      dsimp only
      rw [h6, ih, List.filter_cons_of_pos (by simp [hp]), List.map_cons]
theorem dLc_map {α : Type} (enc : α → D) (p : α → Bool) (h : α → D) {vs : List Nat} {fi : Env → Out (List D)} {g : D → Env → Option Env} {ft : Env → Out Bool} {fe : Env → Out D} {ρ ρ1 : Env} {xs : List α}
    (hi : fi ρ = .ok (xs.map enc) ρ1) (hc : chkE ρ1 vs = true) (hl : xs.length ≤ sizeLine)
    (H : ∀ x ∈ xs, ∃ ρ2 ρ3, g (enc x) (wipeE ρ1 vs) = some ρ2 ∧ ft ρ2 = .ok (p x) ρ3 ∧ (p x = false → restE ρ1 ρ3 vs = ρ1) ∧ (p x = true → ∃ ρ4, fe ρ3 = .ok (h x) ρ4 ∧ restE ρ1 ρ4 vs = ρ1)) :
    dLc vs fi g ft fe ρ = .ok (.lst ((xs.filter p).map h)) ρ1 := by
  unfold dLc
  rw [hi]
  dsimp only [Out.bind]
  rw [if_pos ⟨hc, by rw [List.length_map]; exact hl⟩, lc_map enc p h xs H]
/-- .. a body that leaves all slots as they are -/
theorem dLc_pure {α : Type} (enc : α → D) (p : α → Bool) (h : α → D) (E : α → Env) {vs : List Nat} {fi : Env → Out (List D)} {g : D → Env → Option Env} {ft : Env → Out Bool} {fe : Env → Out D} {ρ ρ1 : Env} {xs : List α}
    (hi : fi ρ = .ok (xs.map enc) ρ1) (hc : chkE ρ1 vs = true) (hl : xs.length ≤ sizeLine) (hg : ∀ x ∈ xs, g (enc x) (wipeE ρ1 vs) = some (E x)) (ht : ∀ x ∈ xs, ft (E x) = .ok (p x) (E x)) (he : ∀ x ∈ xs, p x = true → fe (E x) = .ok (h x) (E x)) (hr : ∀ x ∈ xs, restE ρ1 (E x) vs = ρ1) :
    dLc vs fi g ft fe ρ = .ok (.lst ((xs.filter p).map h)) ρ1 :=
  dLc_map enc p h hi hc hl fun x hx => ⟨E x, E x, hg x hx, ht x hx, fun _ => hr x hx, fun hp => ⟨E x, he x hx hp, hr x hx⟩⟩
/-- .. without a test -/
theorem dLc_all {α : Type} (enc : α → D) (h : α → D) (E : α → Env) {vs : List Nat} {fi : Env → Out (List D)} {g : D → Env → Option Env} {fe : Env → Out D} {ρ ρ1 : Env} {xs : List α}
    (hi : fi ρ = .ok (xs.map enc) ρ1) (hc : chkE ρ1 vs = true) (hl : xs.length ≤ sizeLine) (hg : ∀ x ∈ xs, g (enc x) (wipeE ρ1 vs) = some (E x)) (he : ∀ x ∈ xs, fe (E x) = .ok (h x) (E x)) (hr : ∀ x ∈ xs, restE ρ1 (E x) vs = ρ1) :
    dLc vs fi g (fun ρ => .ok true ρ) fe ρ = .ok (.lst (xs.map h)) ρ1 := by
  have := dLc_pure enc (fun _ => true) h E (ft := fun ρ => .ok true ρ) hi hc hl hg (fun _ _ => rfl) (fun x hx _ => he x hx) hr
  rwa [List.filter_eq_self.mpr fun _ _ => rfl] at this
/-- a comprehension that changes the state: ONE slot list step by step -/
theorem lc_inv {α : Type} (enc : α → D) {vs : List Nat} {g : D → Env → Option Env} {ft : Env → Out Bool} {fe : Env → Out D} (I : List α → List D → Env → Prop) {full : List α}
    (H : ∀ (done : List α) (x : α) (rest : List α) (ys : List D) (ρ : Env), full = done ++ x :: rest → I done ys ρ → ∃ ρ2, g (enc x) (wipeE ρ vs) = some ρ2 ∧
        ((∃ ρ3, ft ρ2 = .ok false ρ3 ∧ I (done ++ [x]) ys (restE ρ ρ3 vs)) ∨ (∃ ρ3 ρ4 y, ft ρ2 = .ok true ρ3 ∧ fe ρ3 = .ok y ρ4 ∧ I (done ++ [x]) (ys ++ [y]) (restE ρ ρ4 vs)))) :
    ∀ (xs : List α) (done : List α) (ys : List D) (ρ : Env), full = done ++ xs → I done ys ρ → ∃ zs ρ', lcL vs g ft fe (xs.map enc) ρ = some (zs, ρ') ∧ I full (ys ++ zs) ρ'
  | [], done, ys, ρ, e, h => ⟨[], ρ, rfl, by rw [e, List.append_nil, List.append_nil]; exact h⟩
  | x :: xs, done, ys, ρ, e0, h => by
    have e1 : full = (done ++ [x]) ++ xs := by rw [e0, List.append_assoc]; rfl
    obtain ⟨ρ2, h1, h2⟩ := H done x xs ys ρ e0 h
    rcases h2 with ⟨ρ3, h3, h4⟩ | ⟨ρ3, ρ4, y, h3, h4, h5⟩
    · obtain ⟨zs, ρ', e, hI⟩ := lc_inv enc I (vs := vs) (g := g) (ft := ft) (fe := fe) H xs _ _ _ e1 h4
      refine ⟨zs, ρ', ?_, hI⟩
      rw [List.map_cons, lcL, h1]
      dsimp only
      rw [h3]
      exact e
    · obtain ⟨zs, ρ', e, hI⟩ := lc_inv enc I (vs := vs) (g := g) (ft := ft) (fe := fe) H xs _ _ _ e1 h5
      refine ⟨y :: zs, ρ', ?_, by rw [List.append_assoc] at hI; exact hI⟩
      rw [List.map_cons, lcL, h1]
      dsimp only
      rw [h3]
      dsimp only
      rw [h4]
      dsimp only
      rw [e]
theorem dLc_inv {α : Type} (enc : α → D) {vs : List Nat} {fi : Env → Out (List D)} {g : D → Env → Option Env} {ft : Env → Out Bool} {fe : Env → Out D} {ρ ρ1 : Env} {xs : List α} (I : List α → List D → Env → Prop)
    (hi : fi ρ = .ok (xs.map enc) ρ1) (hc : chkE ρ1 vs = true) (hl : xs.length ≤ sizeLine) (h0 : I [] [] ρ1)
    (H : ∀ (done : List α) (x : α) (rest : List α) (ys : List D) (ρ : Env), xs = done ++ x :: rest → I done ys ρ → ∃ ρ2, g (enc x) (wipeE ρ vs) = some ρ2 ∧
        ((∃ ρ3, ft ρ2 = .ok false ρ3 ∧ I (done ++ [x]) ys (restE ρ ρ3 vs)) ∨ (∃ ρ3 ρ4 y, ft ρ2 = .ok true ρ3 ∧ fe ρ3 = .ok y ρ4 ∧ I (done ++ [x]) (ys ++ [y]) (restE ρ ρ4 vs)))) :
    ∃ zs ρ', dLc vs fi g ft fe ρ = .ok (.lst zs) ρ' ∧ I xs zs ρ' := by
  obtain ⟨zs, ρ', e, hI⟩ := lc_inv enc I (vs := vs) (g := g) (ft := ft) (fe := fe) H xs [] [] ρ1 rfl h0
  refine ⟨zs, ρ', ?_, hI⟩
  unfold dLc
  rw [hi]
  dsimp only [Out.bind]
  rw [if_pos ⟨hc, by rw [List.length_map]; exact hl⟩, e]
/-- a for loop that runs to its end -/
theorem for_inv {α : Type} (enc : α → D) {g : D → Env → Option Env} {f : Env → RS} (I : List α → Env → Prop) {full : List α}
    (H : ∀ (done : List α) (x : α) (rest : List α) (ρ : Env), full = done ++ x :: rest → I done ρ → ∃ ρ1 ρ2, g (enc x) ρ = some ρ1 ∧ (f ρ1 = .nx ρ2 ∨ f ρ1 = .ct ρ2) ∧ I (done ++ [x]) ρ2) :
    ∀ (xs : List α) (done : List α) (ρ : Env), full = done ++ xs → I done ρ → ∃ ρ', forL g f (xs.map enc) ρ = .nx ρ' ∧ I full ρ'
  | [], done, ρ, e, h => ⟨ρ, rfl, by rw [e, List.append_nil]; exact h⟩
  | x :: xs, done, ρ, e, h => by
    obtain ⟨ρ1, ρ2, h1, h2, h3⟩ := H done x xs ρ e h
    obtain ⟨ρ', e', hI⟩ := for_inv enc (g := g) (f := f) I H xs _ _ (by rw [e, List.append_assoc]; rfl) h3
    refine ⟨ρ', ?_, hI⟩
    rw [List.map_cons, forL, h1]
    rcases h2 with h2 | h2
    · dsimp only
      rw [h2]
      exact e'
    · dsimp only
      rw [h2]
      exact e'
theorem sFor_inv {α : Type} (enc : α → D) {fi : Env → Out (List D)} {g : D → Env → Option Env} {f : Env → RS} {ρ ρ1 : Env} {xs : List α} (I : List α → Env → Prop) (hi : fi ρ = .ok (xs.map enc) ρ1) (h0 : I [] ρ1)
    (H : ∀ (done : List α) (x : α) (rest : List α) (ρ : Env), xs = done ++ x :: rest → I done ρ → ∃ ρ1 ρ2, g (enc x) ρ = some ρ1 ∧ (f ρ1 = .nx ρ2 ∨ f ρ1 = .ct ρ2) ∧ I (done ++ [x]) ρ2) :
    ∃ ρ', sFor fi g f ρ = .nx ρ' ∧ I xs ρ' := by
  obtain ⟨ρ', e, hI⟩ := for_inv enc (g := g) (f := f) I H xs [] ρ1 rfl h0
  refine ⟨ρ', ?_, hI⟩
  unfold sFor
  rw [hi, e_sE_ok]
  exact e
/-- a for loop that returns at the first x of which q holds -/
theorem for_ret {α : Type} (enc : α → D) {g : D → Env → Option Env} {f : Env → RS} (q : α → Bool) (r : α → D) (I : Env → Prop) :
    ∀ (xs : List α) (ρ : Env), I ρ →
      (∀ (x : α) (ρ : Env), x ∈ xs → I ρ → ∃ ρ1 ρ2, g (enc x) ρ = some ρ1 ∧ ((q x = true ∧ f ρ1 = .rt (r x) ρ2) ∨ (q x = false ∧ (f ρ1 = .nx ρ2 ∨ f ρ1 = .ct ρ2) ∧ I ρ2))) →
      (∃ ρ', xs.find? q = none ∧ forL g f (xs.map enc) ρ = .nx ρ' ∧ I ρ') ∨ (∃ x ρ', xs.find? q = some x ∧ forL g f (xs.map enc) ρ = .rt (r x) ρ')
  | [], ρ, h, _ => .inl ⟨ρ, rfl, rfl, h⟩
  | x :: xs, ρ, h, H => by
    obtain ⟨ρ1, ρ2, h1, h2⟩ := H x ρ (List.mem_cons_self ..) h
    rcases h2 with ⟨hq, h2⟩ | ⟨hq, h2⟩
    · refine .inr ⟨x, ρ2, by rw [List.find?_cons_of_pos hq], ?_⟩
      rw [List.map_cons, forL, h1]
      dsimp only
      rw [h2]
    · have st : forL g f (List.map enc (x :: xs)) ρ = forL g f (xs.map enc) ρ2 := by
        rw [List.map_cons, forL, h1]
        dsimp only
        rcases h2.1 with e | e
        · rw [e]
        · rw [e]
      rw [st, List.find?_cons_of_neg (by rw [hq]; simp)]
      exact for_ret enc q r I xs ρ2 h2.2 fun y ρ hy => H y ρ (List.mem_cons_of_mem _ hy)
/-- a while loop by a measure: J n: at most n turns are left -/
theorem while_inv {ft : Env → Out Bool} {f : Env → RS} (J : Nat → Env → Prop) (R : Env → Prop)
    (H : ∀ (n : Nat) (ρ : Env), J n ρ → (∃ ρ1, ft ρ = .ok false ρ1 ∧ R ρ1) ∨ (∃ ρ1 ρ2 m, ft ρ = .ok true ρ1 ∧ (f ρ1 = .nx ρ2 ∨ f ρ1 = .ct ρ2) ∧ m < n ∧ J m ρ2)) :
    ∀ (n k : Nat) (ρ : Env), J n ρ → n < k → ∃ ρ', whileL ft f k ρ = .nx ρ' ∧ R ρ'
  | n, 0, ρ, h, hk => absurd hk (by omega)
  | n, k + 1, ρ, h, hk => by
    rcases H n ρ h with ⟨ρ1, h1, h2⟩ | ⟨ρ1, ρ2, m, h1, h2, h3, h4⟩
    · refine ⟨ρ1, ?_, h2⟩
      rw [whileL, h1, e_sE_ok, if_neg (by simp)]
    · obtain ⟨ρ', e, hR⟩ := while_inv J R H m k ρ2 h4 (by omega)
      refine ⟨ρ', ?_, hR⟩
      rw [whileL, h1, e_sE_ok, if_pos rfl]
      rcases h2 with h2 | h2
      · rw [h2]; exact e
      · rw [h2]; exact e
end PD
namespace PD
open PySem PySem.Spec L2

/-! ### plain data: whole numbers, texts, None, lists and tuples of such, n deep at most -/
def plv : Nat → D → Bool
  | _, .int _ => true
  | _, .non => true
  | _, .str s => PyData.strOk s
  | n + 1, .lst l => l.all (plv n)
  | n + 1, .tup l => l.all (plv n)
  | _, _ => false
theorem plv_lst {n : Nat} {l : List D} (h : plv n (.lst l) = true) : ∃ m, n = m + 1 ∧ ∀ d ∈ l, plv m d = true := by
  cases n with
  | zero => cases h
  | succ m => exact ⟨m, rfl, fun d hd => List.all_eq_true.mp h d hd⟩
theorem plv_tup {n : Nat} {l : List D} (h : plv n (.tup l) = true) : ∃ m, n = m + 1 ∧ ∀ d ∈ l, plv m d = true := by
  cases n with
  | zero => cases h
  | succ m => exact ⟨m, rfl, fun d hd => List.all_eq_true.mp h d hd⟩
mutual
theorem plv_lay : ∀ (d : D) {n : Nat}, plv n d = true → (pyD d).canLay0 = true ∧ (pyD d).depth ≤ n
  | .int i, n, _ => ⟨rfl, Nat.zero_le _⟩
  | .non, n, _ => ⟨rfl, Nat.zero_le _⟩
  | .str s, n, h => ⟨by unfold plv at h; exact h, Nat.zero_le _⟩
  | .bl b, n, h => by unfold plv at h; cases h
  | .dct _ _, n, h => by unfold plv at h; cases h
  | .ty _, n, h => by unfold plv at h; cases h
  | .lst l, n, h => by
    obtain ⟨m, rfl, h2⟩ := plv_lst h
    obtain ⟨a, b⟩ := plv_layL l h2
    exact ⟨a, Nat.succ_le_succ b⟩
  | .tup l, n, h => by
    obtain ⟨m, rfl, h2⟩ := plv_tup h
    obtain ⟨a, b⟩ := plv_layL l h2
    exact ⟨a, Nat.succ_le_succ b⟩
theorem plv_layL : ∀ (l : List D) {n : Nat}, (∀ d ∈ l, plv n d = true) → PyData.canLayAll0 (pyL l) = true ∧ PyData.depthAll (pyL l) ≤ n
  | [], n, _ => ⟨rfl, Nat.zero_le _⟩
  | d :: l, n, h => by
    obtain ⟨a, b⟩ := plv_lay d (h d (List.mem_cons_self ..))
    obtain ⟨c, e⟩ := plv_layL l fun x hx => h x (List.mem_cons_of_mem _ hx)
    exact ⟨Bool.and_eq_true_iff.mpr ⟨a, c⟩, Nat.max_le.mpr ⟨b, e⟩⟩
end
theorem okD_pl {d : D} {n : Nat} (h : plv n d = true) (hn : n ≤ 64 := by decide) : okD d = true := by
  obtain ⟨a, b⟩ := plv_lay d h
  exact Bool.and_eq_true_iff.mpr ⟨a, decide_eq_true (Nat.le_trans b hn)⟩
mutual
theorem eqB_pl : ∀ (d : D) {e : D} {n m : Nat}, plv n d = true → plv m e = true → (eqB d e = true ↔ d = e)
  | .int i, e, n, m, _, he => by
    cases e with
    | int j => show (i == j) = true ↔ _; simp
    | lst l => exact ⟨fun h => (by cases h), fun h => (by cases h)⟩
    | tup l => exact ⟨fun h => (by cases h), fun h => (by cases h)⟩
    | str s => exact ⟨fun h => (by cases h), fun h => (by cases h)⟩
    | non => exact ⟨fun h => (by cases h), fun h => (by cases h)⟩
    | _ => unfold plv at he; cases he
  | .non, e, n, m, _, he => by
    cases e with
    | int j => exact ⟨fun h => (by cases h), fun h => (by cases h)⟩
    | lst l => exact ⟨fun h => (by cases h), fun h => (by cases h)⟩
    | tup l => exact ⟨fun h => (by cases h), fun h => (by cases h)⟩
    | str s => exact ⟨fun h => (by cases h), fun h => (by cases h)⟩
    | non => exact ⟨fun _ => rfl, fun _ => rfl⟩
    | _ => unfold plv at he; cases he
  | .str s, e, n, m, _, he => by
    cases e with
    | str t => show (s == t) = true ↔ _; simp
    | int j => exact ⟨fun h => (by cases h), fun h => (by cases h)⟩
    | lst l => exact ⟨fun h => (by cases h), fun h => (by cases h)⟩
    | tup l => exact ⟨fun h => (by cases h), fun h => (by cases h)⟩
    | non => exact ⟨fun h => (by cases h), fun h => (by cases h)⟩
    | _ => unfold plv at he; cases he
  | .bl b, e, n, m, h, _ => by unfold plv at h; cases h
  | .dct _ _, e, n, m, h, _ => by unfold plv at h; cases h
  | .ty _, e, n, m, h, _ => by unfold plv at h; cases h
  | .lst l, e, n, m, h, he => by
    obtain ⟨n', rfl, h2⟩ := plv_lst h
    cases e with
    | lst l2 =>
      obtain ⟨m', rfl, h3⟩ := plv_lst he
      show PyData.eqvAll (pyL l) (pyL l2) = true ↔ _
      rw [eqL_pl l h2 h3]
      simp
    | int j => exact ⟨fun h => (by cases h), fun h => (by cases h)⟩
    | tup l => exact ⟨fun h => (by cases h), fun h => (by cases h)⟩
    | str s => exact ⟨fun h => (by cases h), fun h => (by cases h)⟩
    | non => exact ⟨fun h => (by cases h), fun h => (by cases h)⟩
    | _ => unfold plv at he; cases he
  | .tup l, e, n, m, h, he => by
    obtain ⟨n', rfl, h2⟩ := plv_tup h
    cases e with
    | tup l2 =>
      obtain ⟨m', rfl, h3⟩ := plv_tup he
      show PyData.eqvAll (pyL l) (pyL l2) = true ↔ _
      rw [eqL_pl l h2 h3]
      simp
    | int j => exact ⟨fun h => (by cases h), fun h => (by cases h)⟩
    | lst l => exact ⟨fun h => (by cases h), fun h => (by cases h)⟩
    | str s => exact ⟨fun h => (by cases h), fun h => (by cases h)⟩
    | non => exact ⟨fun h => (by cases h), fun h => (by cases h)⟩
    | _ => unfold plv at he; cases he
theorem eqL_pl : ∀ (l : List D) {l2 : List D} {n m : Nat}, (∀ d ∈ l, plv n d = true) → (∀ d ∈ l2, plv m d = true) → (PyData.eqvAll (pyL l) (pyL l2) = true ↔ l = l2)
  | [], [], n, m, _, _ => ⟨fun _ => rfl, fun _ => rfl⟩
  | [], _ :: _, n, m, _, _ => ⟨fun h => (by cases h), fun h => (by cases h)⟩
  | _ :: _, [], n, m, _, _ => ⟨fun h => (by cases h), fun h => (by cases h)⟩
  | d :: l, e :: l2, n, m, h, h2 => by
    show (PyData.eqv (pyD d) (pyD e) && PyData.eqvAll (pyL l) (pyL l2)) = true ↔ _
    rw [Bool.and_eq_true, eqL_pl l (fun x hx => h x (List.mem_cons_of_mem _ hx)) (fun x hx => h2 x (List.mem_cons_of_mem _ hx)), eqB_pl d (h d (List.mem_cons_self ..)) (h2 e (List.mem_cons_self ..))]
    simp
end
theorem eqD_pl {d e : D} {n m : Nat} (h : plv n d = true) (h2 : plv m e = true) (hn : n ≤ 64 := by decide) (hm : m ≤ 64 := by decide) : eqD d e = some (.bl (eqB d e)) := if_pos ⟨okD_pl h hn, okD_pl h2 hm⟩
theorem neD_pl {d e : D} {n m : Nat} (h : plv n d = true) (h2 : plv m e = true) (hn : n ≤ 64 := by decide) (hm : m ≤ 64 := by decide) : neD d e = some (.bl (!eqB d e)) := if_pos ⟨okD_pl h hn, okD_pl h2 hm⟩
theorem any_pl {d : D} {l : List D} {n m : Nat} (h : plv n d = true) (h2 : ∀ e ∈ l, plv m e = true) : (l.any fun z => eqB z d) = true ↔ d ∈ l := by
  rw [List.any_eq_true]
  constructor
  · rintro ⟨x, hx, e⟩
    rw [(eqB_pl x (h2 x hx) h).mp e] at hx
    exact hx
  · intro hd
    exact ⟨d, hd, (eqB_pl d h h).mpr rfl⟩
theorem inB_pl {d : D} {l : List D} {n m : Nat} (h : plv n d = true) (h2 : plv m (.lst l) = true) (hn : n ≤ 64 := by decide) (hm : m ≤ 64 := by decide) : inB d (.lst l) = some (l.any fun z => eqB z d) := if_pos ⟨okD_pl h hn, okD_pl h2 hm⟩
/-! encodings -/
theorem all_plv {α : Type} {enc : α → D} {n : Nat} (h : ∀ x, plv n (enc x) = true) (l : List α) : ∀ e ∈ l.map enc, plv n e = true := fun e he => by
  obtain ⟨x, _, rfl⟩ := List.mem_map.mp he
  exact h x
theorem plv_map {α : Type} {enc : α → D} {n : Nat} {l : List α} (h : ∀ x ∈ l, plv n (enc x) = true) : plv (n + 1) (.lst (l.map enc)) = true := by
  show (l.map enc).all (plv n) = true
  rw [List.all_eq_true]
  intro e he
  obtain ⟨x, hx, rfl⟩ := List.mem_map.mp he
  exact h x hx
@[simp] theorem okD_int (i : Int) : okD (.int i) = true := (rfl)
@[simp] theorem okD_non : okD .non = true := (rfl)
@[simp] theorem okD_bl (b : Bool) : okD (.bl b) = true := (rfl)
@[simp] theorem eqB_int (i j : Int) : eqB (.int i) (.int j) = decide (i = j) := by
  show (i == j) = _
  rw [Bool.eq_iff_iff]; simp
@[simp] theorem eqB_str (i j : Str) : eqB (.str i) (.str j) = decide (i = j) := by
  show (i == j) = _
  rw [Bool.eq_iff_iff]; simp
@[simp] theorem eqD_int (i j : Int) : eqD (.int i) (.int j) = some (.bl (decide (i = j))) := by
  unfold eqD; simp
@[simp] theorem neD_int (i j : Int) : neD (.int i) (.int j) = some (.bl (!decide (i = j))) := by
  unfold neD; simp
@[simp] theorem ltD_int (i j : Int) : ltD (.int i) (.int j) = some (.bl (decide (i < j))) := (rfl)
@[simp] theorem leD_int (i j : Int) : leD (.int i) (.int j) = some (.bl (decide (i ≤ j))) := (rfl)
@[simp] theorem gtD_int (i j : Int) : gtD (.int i) (.int j) = some (.bl (decide (j < i))) := (rfl)
@[simp] theorem geD_int (i j : Int) : geD (.int i) (.int j) = some (.bl (decide (j ≤ i))) := (rfl)
@[simp] theorem addD_int (i j : Int) : addD (.int i) (.int j) = some (.int (i + j)) := (rfl)
@[simp] theorem subD_int (i j : Int) : subD (.int i) (.int j) = some (.int (i - j)) := (rfl)
@[simp] theorem negD_int (i : Int) : negD (.int i) = some (.int (-i)) := (rfl)
@[simp] theorem isD_non (d : D) : isD d .non = some (.bl d.isNon) := (rfl)
@[simp] theorem len_lst (l : List D) : lenD [.lst l] = some (.int l.length) := (rfl)
@[simp] theorem len_tup (l : List D) : lenD [.tup l] = some (.int l.length) := (rfl)
@[simp] theorem seqD_lst (l : List D) : seqD (.lst l) = some l := (rfl)
@[simp] theorem seqD_tup (l : List D) : seqD (.tup l) = some l := (rfl)
@[simp] theorem seqD_str (s : Str) : seqD (.str s) = some (strL s) := (rfl)
theorem ixD_lst {l : List D} {i : Int} {d : D} (h : L2.atI l i = some d) : ixD (.lst l) (.int i) = some d := h
theorem ixD_nat {l : List D} {i : Nat} {d : D} (h : l[i]? = some d) : ixD (.lst l) (.int (i : Int)) = some d := by
  refine ixD_lst ?_
  have hl : i < l.length := (List.getElem?_eq_some_iff.mp h).1
  unfold L2.atI L2.ixN
  rw [if_pos (by omega), if_pos (by omega)]
  exact h
end PD
namespace PD
open PySem PySem.Spec L2
/-! ### a draw -/
def nA : Env → RS :=
  (sIf (dAndT (dTest (dOp eqD (dOp ixD (dTop 0) (dC (.int 2))) (dC (.int 0)))) (dTest (dOp ltD (dOp ixD (dTop 0) (dC (.int 1))) (dCB lenD (dCons (dOp ixD (dTop 0) (dC (.int 0))) dNil))))) (sSeq (sSet 2 (dCB absD (dCons (dCB intD (dCons (dOp ixD (dOp ixD (dTop 0) (dC (.int 0))) (dOp ixD (dTop 0) (dC (.int 1)))) dNil)) dNil)))
  (sSeq (sAug (fun i j => i + j) 0 (dC (.int 1)) (dC (.int 1)))
  (sIf (dTest (dOp geD (dVar 2) (dOp powD (dC (.int 10)) (dC (.int 18))))) (sPut 0 (dC (.int 2)) (dVar 2)) (sPut 0 (dC (.int 3)) (dOp modD (dCB intD (dCons (dOp addD (dOp addD (dOp mulD (dOp ixD (dTop 0) (dC (.int 3))) (dC (.int 48271))) (dOp modD (dCB intD (dCons (dVar 2) dNil)) (dC (.int 2147483647)))) (dC (.int 7))) dNil)) (dC (.int 2147483647))))))) sNil)
def nB : Env → RS :=
  (sIf (dTest (dOp gtD (dOp ixD (dTop 0) (dC (.int 2))) (dC (.int 0)))) (sSeq (sSet 3 (dOp modD (dCB intD (dCons (dOp ixD (dTop 0) (dC (.int 2))) dNil)) (dVar 1)))
  (sSeq (sPut 0 (dC (.int 2)) (dOp divD (dOp ixD (dTop 0) (dC (.int 2))) (dVar 1)))
  (sRet (dVar 3)))) sNil)
def nC : Env → RS :=
  (sSeq (sPut 0 (dC (.int 3)) (dOp modD (dCB intD (dCons (dOp addD (dOp mulD (dOp ixD (dTop 0) (dC (.int 3))) (dC (.int 69621))) (dC (.int 12345))) dNil)) (dC (.int 2147483647))))
  (sRet (dOp modD (dCB intD (dCons (dOp divD (dOp ixD (dTop 0) (dC (.int 3))) (dC (.int 7))) dNil)) (dVar 1))))
def dNext : Env → RS := sSeq nA (sSeq nB nC)
def nextM : D → List D → Rm := runM .fro 4 dNext
def StOk (s : D) : Prop := ∃ (ns : List Int) (a r m : Nat), s = .lst [.lst (ns.map D.int), .int a, .int r, .int m]
theorem stOk0 (ns : List Int) : StOk (.lst [.lst (ns.map D.int), .int 0, .int 0, .int 1]) := ⟨ns, 0, 0, 1, rfl⟩
theorem ix0 {x : D} {l : List D} : ixD (.lst (x :: l)) (.int 0) = some x := ixD_nat (i := 0) rfl
theorem ix1 {x y : D} {l : List D} : ixD (.lst (x :: y :: l)) (.int 1) = some y := ixD_nat (i := 1) rfl
theorem ix2 {x y z : D} {l : List D} : ixD (.lst (x :: y :: z :: l)) (.int 2) = some z := ixD_nat (i := 2) rfl
theorem ix3 {x y z w : D} {l : List D} : ixD (.lst (x :: y :: z :: w :: l)) (.int 3) = some w := ixD_nat (i := 3) rfl
@[simp] theorem set_1 {x y z : D} {l : List D} : setD (.lst (x :: y :: l)) (.int 1) z = some (.lst (x :: z :: l)) := by
  show (match L2.ixN (x :: y :: l).length 1 with | some j => some (D.lst ((x :: y :: l).set j z)) | none => none) = _
  unfold L2.ixN
  rw [if_pos (by omega), if_pos (by simp only [List.length_cons]; omega)]
  rfl
@[simp] theorem set_2 {x y w z : D} {l : List D} : setD (.lst (x :: y :: w :: l)) (.int 2) z = some (.lst (x :: y :: z :: l)) := by
  show (match L2.ixN (x :: y :: w :: l).length 2 with | some j => some (D.lst ((x :: y :: w :: l).set j z)) | none => none) = _
  unfold L2.ixN
  rw [if_pos (by omega), if_pos (by simp only [List.length_cons]; omega)]
  rfl
@[simp] theorem set_3 {x y w u z : D} {l : List D} : setD (.lst (x :: y :: w :: u :: l)) (.int 3) z = some (.lst (x :: y :: w :: z :: l)) := by
  show (match L2.ixN (x :: y :: w :: u :: l).length 3 with | some j => some (D.lst ((x :: y :: w :: u :: l).set j z)) | none => none) = _
  unfold L2.ixN
  rw [if_pos (by omega), if_pos (by simp only [List.length_cons]; omega)]
  rfl
@[simp] theorem modD_int {i j : Int} (h : 0 < j) : modD (.int i) (.int j) = some (.int (i % j)) := if_pos h
@[simp] theorem divD_int {i j : Int} (h : 0 < j) (h2 : j < 1073741824) : divD (.int i) (.int j) = some (.int (i / j)) := if_pos ⟨h, h2⟩
theorem mulD_r {i j : Int} (h : -1000000000 < j) (h2 : j < 1000000000) : mulD (.int i) (.int j) = some (.int (i * j)) := if_pos (.inr ⟨by omega, by omega⟩)
def stD (ns : List Int) (a r m : Nat) : D := .lst [.lst (ns.map D.int), .int a, .int r, .int m]
theorem nA_ok (ns : List Int) (a r m : Nat) (L : D) : ∃ (a' r' m' : Nat) (t : Option Sl), nA [some (.arg (stD ns a r m)), some (.fro L), none, none] = .nx [some (.arg (stD ns a' r' m')), some (.fro L), t, none] := by
  unfold nA stD
  by_cases hr : r = 0
  · subst hr
    by_cases ha : a < ns.length
    · have hx : ixD (.lst (ns.map D.int)) (.int (a : Int)) = some (.int (ns[a])) := ixD_nat (by rw [List.getElem?_map, List.getElem?_eq_getElem ha]; rfl)
      have hc : ∃ c : Nat, absD [.int ns[a]] = some (.int c) := by
        refine ⟨ns[a].natAbs, ?_⟩
        show some (D.int _) = _
        congr 2
        split <;> omega
      obtain ⟨c, hc⟩ := hc
      have hp : powD (.int 10) (.int 18) = some (.int 1000000000000000000) := by simp [powD]
      by_cases hb : (1000000000000000000 : Int) ≤ c
      · refine ⟨a + 1, c, m, some (.fro (.int c)), ?_⟩
        simp [ix0, ix1, ix2, ix3, ha, hx, hc, intD, sAug, hp, hb]
      · have hm := mulD_r (i := (m : Int)) (j := 48271) (by omega) (by omega)
        refine ⟨a + 1, 0, (((m : Int) * 48271 + (c : Int) % 2147483647 + 7) % 2147483647).toNat, some (.fro (.int c)), ?_⟩
        simp [ix0, ix1, ix2, ix3, ha, hx, hc, intD, sAug, hp, hb, hm]
        omega
    · refine ⟨a, 0, m, none, ?_⟩
      simp [ix0, ix1, ix2, ix3, ha]
  · refine ⟨a, r, m, none, ?_⟩
    simp [ix0, ix1, ix2, ix3, hr]
theorem runM_rt {rm : Md} {N : Nat} {f : Env → RS} {s d s' : D} {ds : List D} {ρ : Env} (h : f (startM N s ds) = .rt d (some (.arg s') :: ρ)) : runM rm N f s ds = .ok d s' := by
  unfold runM
  rw [h]
  rfl
theorem seq_nx {f g : Env → RS} {ρ ρ1 : Env} (h : f ρ = .nx ρ1) : sSeq f g ρ = g ρ1 := by
  unfold sSeq
  rw [h]
theorem seq_rt {f g : Env → RS} {ρ ρ1 : Env} {d : D} (h : f ρ = .rt d ρ1) : sSeq f g ρ = .rt d ρ1 := by
  unfold sSeq
  rw [h]
theorem nB_pos (ns : List Int) (a' r' m' : Nat) (L : Int) (t : Option Sl) (h0 : 0 < L) (h1 : L < 1073741824) (hr : 0 < r') : nB [some (.arg (stD ns a' r' m')), some (.fro (.int L)), t, none] = .rt (.int ((r' : Int) % L)) [some (.arg (stD ns a' ((r' : Int) / L).toNat m')), some (.fro (.int L)), t, some (.fro (.int ((r' : Int) % L)))] := by
  unfold nB stD
  have : (0 : Int) ≤ (r' : Int) / L := Int.ediv_nonneg (by omega) (by omega)
  simp [ix0, ix1, ix2, ix3, hr, intD, h0, h1]
  omega
theorem nB_zero (ns : List Int) (a' m' : Nat) (L : Int) (t : Option Sl) : nB [some (.arg (stD ns a' 0 m')), some (.fro (.int L)), t, none] = .nx [some (.arg (stD ns a' 0 m')), some (.fro (.int L)), t, none] := by
  unfold nB stD
  simp [ix0, ix1, ix2, ix3]
theorem nC_ok (ns : List Int) (a' m' : Nat) (L : Int) (t : Option Sl) (h0 : 0 < L) (h1 : L < 1073741824) : ∃ (v : Int) (m2 : Nat), nC [some (.arg (stD ns a' 0 m')), some (.fro (.int L)), t, none] = .rt (.int v) [some (.arg (stD ns a' 0 m2)), some (.fro (.int L)), t, none] ∧ 0 ≤ v ∧ v < L := by
  have hm := mulD_r (i := (m' : Int)) (j := 69621) (by omega) (by omega)
  generalize hk : (m' : Int) * 69621 = k at hm
  have e3 : (((k + 12345) % 2147483647).toNat : Int) = (k + 12345) % 2147483647 := Int.toNat_of_nonneg (Int.emod_nonneg _ (by omega))
  refine ⟨(k + 12345) % 2147483647 / 7 % L, ((k + 12345) % 2147483647).toNat, ?_, Int.emod_nonneg _ (by omega), Int.emod_lt_of_pos _ h0⟩
  unfold nC stD
  rw [e3]
  simp [ix0, ix1, ix2, ix3, intD, h0, h1, hm]
theorem next_ok {s : D} {L : Int} (h : StOk s) (h0 : 0 < L) (h1 : L < 1073741824) : ∃ (v : Int) (s' : D), nextM s [.int L] = .ok (.int v) s' ∧ 0 ≤ v ∧ v < L ∧ StOk s' := by
  obtain ⟨ns, a, r, m, rfl⟩ := h
  obtain ⟨a', r', m', t, hA⟩ := nA_ok ns a r m (.int L)
  have hs : startM 4 (.lst [.lst (ns.map D.int), .int a, .int r, .int m]) [.int L] = [some (.arg (stD ns a r m)), some (.fro (.int L)), none, none] := rfl
  by_cases hr : 0 < r'
  · have hB := nB_pos ns a' r' m' L t h0 h1 hr
    refine ⟨(r' : Int) % L, stD ns a' ((r' : Int) / L).toNat m', runM_rt (ρ := [some (.fro (.int L)), t, some (.fro (.int ((r' : Int) % L)))]) ?_, Int.emod_nonneg _ (by omega), Int.emod_lt_of_pos _ h0, ns, a', ((r' : Int) / L).toNat, m', rfl⟩
    rw [hs]
    unfold dNext
    rw [seq_nx hA, seq_rt hB]
  · have hr0 : r' = 0 := by omega
    subst hr0
    obtain ⟨v, m2, hC, h2, h3⟩ := nC_ok ns a' m' L t h0 h1
    refine ⟨v, stD ns a' 0 m2, runM_rt (ρ := [some (.fro (.int L)), t, none]) ?_, h2, h3, ns, a', 0, m2, rfl⟩
    rw [hs]
    unfold dNext
    rw [seq_nx hA, seq_nx (nB_zero ns a' m' L t), hC]
/-! ### the same in its kind -/
def dSame (rf : List D → Rr) : PD.Env → RS :=
  (sSeq (sIf (dTest (dOp isD (dVar 1) (dC .non))) (sRet (dOp isD (dVar 0) (dC .non))) sNil)
  (sSeq (sIf (dTru (dCB isiD (dCons (dVar 1) (dCons (dC (.ty "bool")) dNil)))) (sRet (dAnd (dCB isiD (dCons (dVar 0) (dCons (dC (.ty "bool")) dNil))) (dOp eqD (dVar 0) (dVar 1)))) sNil)
  (sSeq (sIf (dTru (dCB isiD (dCons (dVar 1) (dCons (dC (.ty "int")) dNil)))) (sRet (dAnd (dCB isiD (dCons (dVar 0) (dCons (dC (.ty "int")) dNil))) (dAnd (dNot (dCB isiD (dCons (dVar 0) (dCons (dC (.ty "bool")) dNil)))) (dOp eqD (dVar 0) (dVar 1))))) sNil)
  (sSeq (sIf (dTru (dCB isiD (dCons (dVar 1) (dCons (dC (.ty "str")) dNil)))) (sRet (dAnd (dCB isiD (dCons (dVar 0) (dCons (dC (.ty "str")) dNil))) (dOp eqD (dVar 0) (dVar 1)))) sNil)
  (sSeq (sIf (dAndT (dTru (dCB isiD (dCons (dVar 1) (dCons (dC (.ty "tuple")) dNil)))) (dNotT (dTru (dCB isiD (dCons (dVar 0) (dCons (dC (.ty "tuple")) dNil)))))) (sRet (dC (.bl false))) sNil)
  (sSeq (sIf (dAndT (dTru (dCB isiD (dCons (dVar 1) (dCons (dC (.ty "list")) dNil)))) (dNotT (dTru (dCB isiD (dCons (dVar 0) (dCons (dC (.ty "list")) dNil)))))) (sRet (dC (.bl false))) sNil)
  (sSeq (sIf (dTest (dOp neD (dCB lenD (dCons (dVar 0) dNil)) (dCB lenD (dCons (dVar 1) dNil)))) (sRet (dC (.bl false))) sNil)
  (sSeq (sFor (dRng1 (dCons (dCB lenD (dCons (dVar 1) dNil)) dNil)) (gN 2) (sIf (dNotT (dTru (dCall rf [] (dCons (dOp ixD (dVar 0) (dVar 2)) (dCons (dOp ixD (dVar 1) (dVar 2)) dNil))))) (sRet (dC (.bl false))) sNil))
  (sRet (dC (.bl true)))))))))))
def sameR : Nat → List D → Rr
  | 0 => fun _ => .bad
  | k + 1 => runF .fro 3 (dSame (sameR k))
theorem ixD_natT {l : List D} {i : Nat} {d : D} (h : l[i]? = some d) : ixD (.tup l) (.int (i : Int)) = some d := ixD_nat h
theorem find_none {α : Type} {q : α → Bool} {l : List α} (h : l.find? q = none) : ∀ x ∈ l, q x = false := fun x hx => by
  have := List.find?_eq_none.mp h x hx
  simpa using this
theorem sameL {rf : List D → Rr} {l l2 : List D} {d e : D} (mk : List D → D) (hd : d = mk l) (he : e = mk l2) (hix : ∀ (l : List D) (i : Nat) x, l[i]? = some x → ixD (mk l) (.int (i : Int)) = some x) (hl : l.length = l2.length) (hs : l2.length ≤ sizeLine)
    (hr : ∀ (i : Nat) x y, l[i]? = some x → l2[i]? = some y → ∃ b, rf [x, y] = .ok (.bl b) ∧ (b = true ↔ x = y)) (f1 : Env → RS) (hf1 : f1 = sIf (dNotT (dTru (dCall rf [] (dCons (dOp ixD (dVar 0) (dVar 2)) (dCons (dOp ixD (dVar 1) (dVar 2)) dNil))))) (sRet (dC (.bl false))) sNil) :
    (l = l2 ∧ ∃ x, forL (gN 2) f1 (rangeL 0 l2.length) [some (.fro d), some (.fro e), none] = .nx [some (.fro d), some (.fro e), x]) ∨ (l ≠ l2 ∧ ∃ ρ', forL (gN 2) f1 (rangeL 0 l2.length) [some (.fro d), some (.fro e), none] = .rt (.bl false) ρ') := by
  subst hf1
  have key := for_ret (fun (i : Nat) => D.int (0 + (i : Int))) (g := gN 2) (f := sIf (dNotT (dTru (dCall rf [] (dCons (dOp ixD (dVar 0) (dVar 2)) (dCons (dOp ixD (dVar 1) (dVar 2)) dNil))))) (sRet (dC (.bl false))) sNil)
    (fun i => match l[i]?, l2[i]? with | some x, some y => (match rf [x, y] with | .ok (.bl b) => !b | _ => false) | _, _ => false) (fun _ => D.bl false) (fun ρ => ∃ x, ρ = [some (.fro d), some (.fro e), x]) (List.range l2.length) [some (.fro d), some (.fro e), none] ⟨none, rfl⟩ (by
      rintro i ρ hi ⟨x, rfl⟩
      have hi' : i < l2.length := List.mem_range.mp hi
      have e1 : l[i]? = some (l[i]'(by omega)) := List.getElem?_eq_getElem (by omega)
      have e2 : l2[i]? = some l2[i] := List.getElem?_eq_getElem hi'
      obtain ⟨b, hb, _⟩ := hr i _ _ e1 e2
      have x1 := hix l i _ e1
      have x2 := hix l2 i _ e2
      rw [← hd] at x1
      rw [← he] at x2
      refine ⟨[some (.fro d), some (.fro e), some (.fro (.int (0 + (i : Int))))], [some (.fro d), some (.fro e), some (.fro (.int (0 + (i : Int))))], by simp, ?_⟩
      cases b with
      | true => exact .inr ⟨by rw [e1, e2]; dsimp only; rw [hb]; rfl, .inl (by simp [x1, x2, hb, truD]), _, rfl⟩
      | false => exact .inl ⟨by rw [e1, e2]; dsimp only; rw [hb]; rfl, by simp [x1, x2, hb, truD]⟩)
  rcases key with ⟨ρ', h1, h2, x, rfl⟩ | ⟨i, ρ', h1, h2⟩
  · refine .inl ⟨List.ext_getElem hl fun i a b => ?_, x, h2⟩
    have := find_none h1 i (List.mem_range.mpr b)
    have e1 : l[i]? = some l[i] := List.getElem?_eq_getElem a
    have e2 : l2[i]? = some l2[i] := List.getElem?_eq_getElem b
    obtain ⟨c, hb, hc⟩ := hr i _ _ e1 e2
    rw [e1, e2] at this
    dsimp only at this
    rw [hb] at this
    dsimp only at this
    exact hc.mp (by simpa using this)
  · refine .inr ⟨fun hll => ?_, ρ', h2⟩
    have hq := List.find?_some h1
    have hi : i < l2.length := List.mem_range.mp (List.mem_of_find?_eq_some h1)
    have e1 : l[i]? = some (l[i]'(by omega)) := List.getElem?_eq_getElem (by omega)
    have e2 : l2[i]? = some l2[i] := List.getElem?_eq_getElem hi
    obtain ⟨c, hb, hc⟩ := hr i _ _ e1 e2
    rw [e1, e2] at hq
    dsimp only at hq
    rw [hb] at hq
    dsimp only at hq
    have : c = true := hc.mpr (by subst hll; rfl)
    rw [this] at hq
    cases hq
theorem plv_mono : ∀ (d : D) {n m : Nat}, plv n d = true → n ≤ m → plv m d = true
  | .int _, _, _, _, _ => by unfold plv; rfl
  | .non, _, _, _, _ => by unfold plv; rfl
  | .str s, _, _, h, _ => by unfold plv at h ⊢; exact h
  | .bl _, _, _, h, _ => by unfold plv at h; cases h
  | .dct _ _, _, _, h, _ => by unfold plv at h; cases h
  | .ty _, _, _, h, _ => by unfold plv at h; cases h
  | .lst l, n, m, h, hm => by
    obtain ⟨k, rfl, h2⟩ := plv_lst h
    obtain ⟨j, rfl⟩ : ∃ j, m = j + 1 := ⟨m - 1, by omega⟩
    show l.all (plv j) = true
    rw [List.all_eq_true]
    exact fun d hd => plv_mono d (h2 d hd) (by omega)
  | .tup l, n, m, h, hm => by
    obtain ⟨k, rfl, h2⟩ := plv_tup h
    obtain ⟨j, rfl⟩ : ∃ j, m = j + 1 := ⟨m - 1, by omega⟩
    show l.all (plv j) = true
    rw [List.all_eq_true]
    exact fun d hd => plv_mono d (h2 d hd) (by omega)
/-- lists no longer than a line, in depth -/
def fit : Nat → D → Prop
  | n + 1, .lst l => l.length ≤ 1000000 ∧ ∀ d ∈ l, fit n d
  | n + 1, .tup l => l.length ≤ 1000000 ∧ ∀ d ∈ l, fit n d
  | _, _ => True
theorem same_ok : ∀ (k : Nat) {d e : D} {n : Nat}, n ≤ 64 → k ≤ 64 → plv n d = true → plv k e = true → fit k e → ∃ b, sameR (k + 1) [d, e] = .ok (.bl b) ∧ (b = true ↔ d = e) := by
  intro k
  induction k with
  | zero =>
    intro d e n hn hk hd he _
    have hq := eqD_pl hd he hn hk
    have hb := eqB_pl d hd he
    refine ⟨eqB d e, ?_, hb⟩
    unfold sameR runF startE dSame
    cases e with
    | int j => cases d <;> first | (unfold plv at hd; cases hd; done) | simp [isiD, isiB, D.tyName, D.isNon, truD, hq]; try rfl
    | non => cases d <;> first | (unfold plv at hd; cases hd; done) | simp [isiD, isiB, D.tyName, D.isNon, truD]; try rfl
    | str s => cases d <;> first | (unfold plv at hd; cases hd; done) | simp [isiD, isiB, D.tyName, D.isNon, truD, hq]; try rfl
    | _ => unfold plv at he; cases he
  | succ k ih =>
    intro d e n hn hk hd he hf
    have hq := eqD_pl hd he hn hk
    have hb := eqB_pl d hd he
    cases e with
    | int j =>
      refine ⟨eqB d (.int j), ?_, hb⟩
      unfold sameR runF startE dSame
      cases d <;> first | (unfold plv at hd; cases hd; done) | simp [isiD, isiB, D.tyName, D.isNon, truD, hq]; try rfl
    | non =>
      refine ⟨eqB d .non, ?_, hb⟩
      unfold sameR runF startE dSame
      cases d <;> first | (unfold plv at hd; cases hd; done) | simp [isiD, isiB, D.tyName, D.isNon, truD]; try rfl
    | str s =>
      refine ⟨eqB d (.str s), ?_, hb⟩
      unfold sameR runF startE dSame
      cases d <;> first | (unfold plv at hd; cases hd; done) | simp [isiD, isiB, D.tyName, D.isNon, truD, hq]; try rfl
    | lst l2 =>
      obtain ⟨k', hk', h2⟩ := plv_lst he
      cases hk'
      have hlen2 : l2.length ≤ 1000000 := hf.1
      have nope : ∀ d', (∀ l, d' ≠ .lst l) → d = d' → ∃ b, sameR (k + 1 + 1) [d, .lst l2] = .ok (.bl b) ∧ (b = true ↔ d = .lst l2) := by
        intro d' hne hdd
        subst hdd
        refine ⟨false, ?_, ⟨fun z => (by cases z), fun z => absurd z (hne l2)⟩⟩
        unfold sameR runF startE dSame
        cases d <;> first | (unfold plv at hd; cases hd; done) | exact absurd rfl (hne _) | simp [isiD, isiB, D.tyName, D.isNon, truD]
      cases d with
      | lst l =>
        obtain ⟨n', rfl, h3⟩ := plv_lst hd
        by_cases hl : l.length = l2.length
        · have hx := sameL (rf := sameR (k + 1)) (l := l) (l2 := l2) D.lst rfl rfl (fun l i x h => ixD_nat h) hl (by unfold sizeLine; omega) (fun i x y hx hy => by
            have m1 := List.mem_of_getElem? hx
            have m2 := List.mem_of_getElem? hy
            exact ih (by omega) (by omega) (h3 x m1) (h2 y m2) (hf.2 y m2)) _ rfl
          have hr1 : -(2 ^ 62) ≤ ((l2.length : Nat) : Int) ∧ ((l2.length : Nat) : Int) < 2 ^ 62 := ⟨by omega, by omega⟩
          rcases hx with ⟨hll, x, hx⟩ | ⟨hll, ρ', hx⟩
          · refine ⟨true, ?_, ⟨fun _ => by rw [hll], fun _ => rfl⟩⟩
            unfold sameR runF startE dSame
            have hF : sFor (dRng1 (dCons (dCB lenD (dCons (dVar 1) dNil)) dNil)) (gN 2) (sIf (dNotT (dTru (dCall (sameR (k + 1)) [] (dCons (dOp ixD (dVar 0) (dVar 2)) (dCons (dOp ixD (dVar 1) (dVar 2)) dNil))))) (sRet (dC (.bl false))) sNil) [some (.fro (.lst l)), some (.fro (.lst l2)), none] = .nx [some (.fro (.lst l)), some (.fro (.lst l2)), x] := by
              rw [← hx]
              unfold sFor
              rw [e_Rng1]
              simp only [e_Cons, e_CB, e_Var, at1, e_bok, e_Nil, len_lst, e_lift]
              rw [if_pos hr1]
              simp only [e_sE_ok, Int.toNat_natCast]
            simp [isiD, isiB, D.tyName, D.isNon, truD, hl, hF]
            try rfl
          · refine ⟨false, ?_, ⟨fun z => (by cases z), fun z => absurd (by cases z; rfl) hll⟩⟩
            unfold sameR runF startE dSame
            have hF : sFor (dRng1 (dCons (dCB lenD (dCons (dVar 1) dNil)) dNil)) (gN 2) (sIf (dNotT (dTru (dCall (sameR (k + 1)) [] (dCons (dOp ixD (dVar 0) (dVar 2)) (dCons (dOp ixD (dVar 1) (dVar 2)) dNil))))) (sRet (dC (.bl false))) sNil) [some (.fro (.lst l)), some (.fro (.lst l2)), none] = .rt (.bl false) ρ' := by
              rw [← hx]
              unfold sFor
              rw [e_Rng1]
              simp only [e_Cons, e_CB, e_Var, at1, e_bok, e_Nil, len_lst, e_lift]
              rw [if_pos hr1]
              simp only [e_sE_ok, Int.toNat_natCast]
            simp [isiD, isiB, D.tyName, D.isNon, truD, hl, hF]
            try rfl
        · refine ⟨false, ?_, ⟨fun z => (by cases z), fun z => absurd (by cases z; rfl) hl⟩⟩
          have hl' : ¬ ((l.length : Int) = l2.length) := by omega
          unfold sameR runF startE dSame
          simp [isiD, isiB, D.tyName, D.isNon, truD, hl']
          try rfl
      | _ => exact nope _ (fun l z => by cases z) rfl
    | tup l2 =>
      obtain ⟨k', hk', h2⟩ := plv_tup he
      cases hk'
      have hlen2 : l2.length ≤ 1000000 := hf.1
      have nope : ∀ d', (∀ l, d' ≠ .tup l) → d = d' → ∃ b, sameR (k + 1 + 1) [d, .tup l2] = .ok (.bl b) ∧ (b = true ↔ d = .tup l2) := by
        intro d' hne hdd
        subst hdd
        refine ⟨false, ?_, ⟨fun z => (by cases z), fun z => absurd z (hne l2)⟩⟩
        unfold sameR runF startE dSame
        cases d <;> first | (unfold plv at hd; cases hd; done) | exact absurd rfl (hne _) | simp [isiD, isiB, D.tyName, D.isNon, truD]
      cases d with
      | tup l =>
        obtain ⟨n', rfl, h3⟩ := plv_tup hd
        by_cases hl : l.length = l2.length
        · have hx := sameL (rf := sameR (k + 1)) (l := l) (l2 := l2) D.tup rfl rfl (fun l i x h => ixD_natT h) hl (by unfold sizeLine; omega) (fun i x y hx hy => by
            have m1 := List.mem_of_getElem? hx
            have m2 := List.mem_of_getElem? hy
            exact ih (by omega) (by omega) (h3 x m1) (h2 y m2) (hf.2 y m2)) _ rfl
          have hr1 : -(2 ^ 62) ≤ ((l2.length : Nat) : Int) ∧ ((l2.length : Nat) : Int) < 2 ^ 62 := ⟨by omega, by omega⟩
          rcases hx with ⟨hll, x, hx⟩ | ⟨hll, ρ', hx⟩
          · refine ⟨true, ?_, ⟨fun _ => by rw [hll], fun _ => rfl⟩⟩
            unfold sameR runF startE dSame
            have hF : sFor (dRng1 (dCons (dCB lenD (dCons (dVar 1) dNil)) dNil)) (gN 2) (sIf (dNotT (dTru (dCall (sameR (k + 1)) [] (dCons (dOp ixD (dVar 0) (dVar 2)) (dCons (dOp ixD (dVar 1) (dVar 2)) dNil))))) (sRet (dC (.bl false))) sNil) [some (.fro (.tup l)), some (.fro (.tup l2)), none] = .nx [some (.fro (.tup l)), some (.fro (.tup l2)), x] := by
              rw [← hx]
              unfold sFor
              rw [e_Rng1]
              simp only [e_Cons, e_CB, e_Var, at1, e_bok, e_Nil, len_tup, e_lift]
              rw [if_pos hr1]
              simp only [e_sE_ok, Int.toNat_natCast]
            simp [isiD, isiB, D.tyName, D.isNon, truD, hl, hF]
            try rfl
          · refine ⟨false, ?_, ⟨fun z => (by cases z), fun z => absurd (by cases z; rfl) hll⟩⟩
            unfold sameR runF startE dSame
            have hF : sFor (dRng1 (dCons (dCB lenD (dCons (dVar 1) dNil)) dNil)) (gN 2) (sIf (dNotT (dTru (dCall (sameR (k + 1)) [] (dCons (dOp ixD (dVar 0) (dVar 2)) (dCons (dOp ixD (dVar 1) (dVar 2)) dNil))))) (sRet (dC (.bl false))) sNil) [some (.fro (.tup l)), some (.fro (.tup l2)), none] = .rt (.bl false) ρ' := by
              rw [← hx]
              unfold sFor
              rw [e_Rng1]
              simp only [e_Cons, e_CB, e_Var, at1, e_bok, e_Nil, len_tup, e_lift]
              rw [if_pos hr1]
              simp only [e_sE_ok, Int.toNat_natCast]
            simp [isiD, isiB, D.tyName, D.isNon, truD, hl, hF]
            try rfl
        · refine ⟨false, ?_, ⟨fun z => (by cases z), fun z => absurd (by cases z; rfl) hl⟩⟩
          have hl' : ¬ ((l.length : Int) = l2.length) := by omega
          unfold sameR runF startE dSame
          simp [isiD, isiB, D.tyName, D.isNon, truD, hl']
          try rfl
      | _ => exact nope _ (fun l z => by cases z) rfl
    | _ => unfold plv at he; cases he
end PD
namespace PD
open PySem PySem.Spec L2

@[simp] theorem szLine : sizeLine = 16777216 := (rfl)
/-! ### sorted -/
abbrev dLe : D → D → Bool := PySem.W.dataLe false pyD
theorem dLe_trans (a b c : D) (h1 : dLe a b = true) (h2 : dLe b c = true) : dLe a c = true := (PySem.W.sortLe_total (PyProof.Rows.listOrd PyProof.Rows.itemOrd) false fun b => PySem.W.keyToks (pyD b)).trans a b c h1 h2
theorem dLe_total (a b : D) : (dLe a b || dLe b a) = true := Bool.or_eq_true_iff.mpr <| (PySem.W.sortLe_total (PyProof.Rows.listOrd PyProof.Rows.itemOrd) false fun b => PySem.W.keyToks (pyD b)).total a b
theorem sortL_perm (l : List D) : (sortL l).Perm l := List.mergeSort_perm _ _
theorem sortL_pw (l : List D) : (sortL l).Pairwise fun a b => dLe a b = true := List.pairwise_mergeSort dLe_trans dLe_total l
theorem sortL_id {l : List D} (h : l.Pairwise fun a b => dLe a b = true) : sortL l = l := List.mergeSort_of_pairwise h
theorem dLe_def (a b : D) : dLe a b = !PySem.W.dataLt (pyD b) (pyD a) := rfl
theorem dLe_int (i j : Int) : dLe (.int i) (.int j) = decide (i ≤ j) := by
  rw [dLe_def]
  show (!PySem.W.dataLt (.int j) (.int i)) = _
  rw [PySem.W.dataLt_int, Bool.eq_iff_iff]
  simp
def sLe (a b : Str) : Prop := ¬ b.cps.toList < a.cps.toList
def sLt (a b : Str) : Prop := a.cps.toList < b.cps.toList
instance (a b : Str) : Decidable (sLe a b) := inferInstanceAs (Decidable (¬ _))
instance (a b : Str) : Decidable (sLt a b) := inferInstanceAs (Decidable (_ < _))
theorem dLe_str (a b : Str) : dLe (.str a) (.str b) = decide (sLe a b) := by
  rw [dLe_def]
  show (!PySem.W.dataLt (.str b) (.str a)) = _
  rw [PySem.W.dataLt_str, Bool.eq_iff_iff]
  simp [sLe]
theorem sLt_asymm {a b : Str} (h : sLt a b) : sLe a b := fun z => List.lt_irrefl _ (List.lt_trans h z)
theorem sLt_ne {a b : Str} (h : sLt a b) : a ≠ b := fun e => by subst e; exact List.lt_irrefl _ h
theorem sLe_antisymm {a b : Str} (h1 : sLe a b) (h2 : sLe b a) : a = b := by
  have : a.cps.toList = b.cps.toList := List.le_antisymm (List.not_lt.mp h1) (List.not_lt.mp h2)
  exact PySem.W.str_of_cps this
/-- (text, number) by the text, when the texts are unlike -/
theorem dLe_sp {a b : Str} (x y : Int) (h : sLt a b) : dLe (.tup [.str a, .int x]) (.tup [.str b, .int y]) = true := by
  rw [dLe_def]
  show (!PySem.W.dataLt (.tuple [.str b, .int y]) (.tuple [.str a, .int x])) = true
  rw [PySem.W.dataLt_pair rfl rfl, if_neg, PySem.W.dataLt_str]
  · simpa using List.le_of_lt h
  · show ¬ (b == a) = true
    simpa using (sLt_ne h).symm
/-- (number, text): by the number first -/
theorem dLe_ip {a b : Str} {x y : Int} (h : dLe (.tup [.int x, .str a]) (.tup [.int y, .str b]) = true) : x ≤ y := by
  rw [dLe_def] at h
  have h : (!PySem.W.dataLt (.tuple [.int y, .str b]) (.tuple [.int x, .str a])) = true := h
  rw [PySem.W.dataLt_pair rfl rfl] at h
  by_cases e : x = y
  · omega
  · rw [if_neg, PySem.W.dataLt_int] at h
    · simp at h; exact h
    · show ¬ (y == x) = true
      simpa using fun z => e z.symm
/-- a sorted encoded list is an encoded permutation -/
theorem sortL_map {α : Type} (enc : α → D) (xs : List α) : ∃ ys : List α, ys.Perm xs ∧ sortL (xs.map enc) = ys.map enc ∧ ys.Pairwise fun a b => dLe (enc a) (enc b) = true := by
  refine ⟨xs.mergeSort fun a b => dLe (enc a) (enc b), List.mergeSort_perm _ _, ?_, ?_⟩
  · unfold sortL
    exact (List.map_mergeSort (r := fun a b => dLe (enc a) (enc b)) (s := PySem.W.dataLe false pyD) (f := enc) fun a _ b _ => rfl).symm
  · exact List.pairwise_mergeSort (le := fun a b => dLe (enc a) (enc b)) (fun a b c => dLe_trans (enc a) (enc b) (enc c)) (fun a b => dLe_total (enc a) (enc b)) xs
theorem canSort_of {α : Type} (enc : α → D) (xs : List α) {n : Nat} (h1 : ∀ x y, PySem.W.alike (pyD (enc x)) (pyD (enc y)) = true) (h2 : ∀ x ∈ xs, plv n (enc x) = true) (hn : n ≤ 64) (h3 : (∀ x, (enc x).ne = true) ∨ (∀ x, (enc x).nt = true)) : canSort (xs.map enc) = true := by
  unfold canSort
  rw [Bool.and_eq_true, Bool.and_eq_true, Bool.or_eq_true]
  refine ⟨⟨?_, ?_⟩, ?_⟩
  · unfold allAlike
    rw [List.all_eq_true]
    intro d hd
    rw [List.all_eq_true]
    intro e he
    obtain ⟨x, _, rfl⟩ := List.mem_map.mp hd
    obtain ⟨y, _, rfl⟩ := List.mem_map.mp he
    exact h1 x y
  · rw [List.all_eq_true]
    intro d hd
    obtain ⟨x, hx, rfl⟩ := List.mem_map.mp hd
    exact okD_pl (h2 x hx) hn
  · rcases h3 with h | h
    · left
      rw [List.all_eq_true]
      intro d hd
      obtain ⟨x, _, rfl⟩ := List.mem_map.mp hd
      exact h x
    · right
      rw [List.all_eq_true]
      intro d hd
      obtain ⟨x, _, rfl⟩ := List.mem_map.mp hd
      exact h x
theorem sorted_eq {l : List D} (h : canSort l = true) : sortedD [.lst l] = some (.lst (sortL l)) := if_pos h
theorem canSort_int (ns : List Int) : canSort (ns.map D.int) = true := canSort_of D.int ns (n := 0) (fun _ _ => rfl) (fun _ _ => rfl) (by decide) (.inr fun _ => rfl)
theorem canSort_str (ns : List Str) (h : ∀ x ∈ ns, PyData.strOk x = true) : canSort (ns.map D.str) = true := canSort_of D.str ns (n := 0) (fun _ _ => rfl) (fun x hx => h x hx) (by decide) (.inr fun _ => rfl)
/-- sorted texts that stand in order already -/
theorem sorted_strs {L : List Str} (h : ∀ x ∈ L, PyData.strOk x = true) (hp : L.Pairwise sLt) : sortedD [.lst (L.map D.str)] = some (.lst (L.map D.str)) := by
  rw [sorted_eq (canSort_str L h), sortL_id]
  rw [List.pairwise_map]
  exact hp.imp fun hab => by rw [dLe_str]; exact decide_eq_true (sLt_asymm hab)
theorem ixT0 {x : D} {l : List D} : ixD (.tup (x :: l)) (.int 0) = some x := ixD_natT (i := 0) rfl
theorem ixT1 {x y : D} {l : List D} : ixD (.tup (x :: y :: l)) (.int 1) = some y := ixD_natT (i := 1) rfl
theorem plv_str {s : Str} (h : PyData.strOk s = true) {n : Nat} : plv n (.str s) = true := by cases n <;> exact h
theorem eqD_str {a b : Str} (h1 : PyData.strOk a = true) (h2 : PyData.strOk b = true) : eqD (.str a) (.str b) = some (.bl (decide (a = b))) := by
  rw [eqD_pl (n := 0) (m := 0) (plv_str h1) (plv_str h2), eqB_str]
theorem neD_str {a b : Str} (h1 : PyData.strOk a = true) (h2 : PyData.strOk b = true) : neD (.str a) (.str b) = some (.bl (!decide (a = b))) := by
  rw [neD_pl (n := 0) (m := 0) (plv_str h1) (plv_str h2), eqB_str]
/-! ### lists of texts -/
def encS (L : List Str) : D := .lst (L.map D.str)
theorem plv_strs {L : List Str} (h : ∀ x ∈ L, PyData.strOk x = true) : plv 1 (encS L) = true := plv_map fun x hx => h x hx
theorem map_str_inj {L M : List Str} (h : L.map D.str = M.map D.str) : L = M := by
  have : Function.Injective D.str := fun a b e => by cases e; rfl
  exact (List.map_inj_right this).mp h
theorem eqB_strs {L M : List Str} (hL : ∀ x ∈ L, PyData.strOk x = true) (hM : ∀ x ∈ M, PyData.strOk x = true) : eqB (encS L) (encS M) = decide (L = M) := by
  rw [Bool.eq_iff_iff, eqB_pl _ (plv_strs hL) (plv_strs hM), decide_eq_true_iff]
  unfold encS
  exact ⟨fun h => map_str_inj (D.lst.inj h), fun h => by rw [h]⟩
theorem eqD_strs {L M : List Str} (hL : ∀ x ∈ L, PyData.strOk x = true) (hM : ∀ x ∈ M, PyData.strOk x = true) : eqD (encS L) (encS M) = some (.bl (decide (L = M))) := by
  rw [eqD_pl (plv_strs hL) (plv_strs hM), eqB_strs hL hM]
theorem neD_strs {L M : List Str} (hL : ∀ x ∈ L, PyData.strOk x = true) (hM : ∀ x ∈ M, PyData.strOk x = true) : neD (encS L) (encS M) = some (.bl (!decide (L = M))) := by
  rw [neD_pl (plv_strs hL) (plv_strs hM), eqB_strs hL hM]
theorem all_of {L : List Str} (hL : ∀ x ∈ L, PyData.strOk x = true) : ∀ e ∈ L.map D.str, plv 0 e = true := fun e he => by
  obtain ⟨y, hy, rfl⟩ := List.mem_map.mp he
  exact plv_str (hL y hy)
theorem inB_strs {x : Str} {L : List Str} (hx : PyData.strOk x = true) (hL : ∀ x ∈ L, PyData.strOk x = true) : inB (.str x) (encS L) = some (decide (x ∈ L)) := by
  unfold encS
  rw [inB_pl (n := 0) (m := 1) (plv_str hx) (plv_strs hL)]
  congr 1
  rw [Bool.eq_iff_iff, any_pl (n := 0) (m := 0) (plv_str hx) (all_of hL), decide_eq_true_iff, List.mem_map]
  exact ⟨fun ⟨y, hy, e⟩ => by cases e; exact hy, fun h => ⟨x, h, rfl⟩⟩
theorem inD_strs {x : Str} {L : List Str} (hx : PyData.strOk x = true) (hL : ∀ x ∈ L, PyData.strOk x = true) : inD (.str x) (encS L) = some (.bl (decide (x ∈ L))) := by
  unfold inD
  rw [inB_strs hx hL]
  rfl
theorem ninD_strs {x : Str} {L : List Str} (hx : PyData.strOk x = true) (hL : ∀ x ∈ L, PyData.strOk x = true) : ninD (.str x) (encS L) = some (.bl (!decide (x ∈ L))) := by
  unfold ninD
  rw [inB_strs hx hL]
  rfl
@[simp] theorem len_strs (L : List Str) : lenD [encS L] = some (.int L.length) := by
  show some (D.int ((L.map D.str).length : Int)) = _
  rw [List.length_map]
@[simp] theorem seq_strs (L : List Str) : seqD (encS L) = some (L.map D.str) := (rfl)
/-! ### slices -/
theorem cut_to {α : Type} {l : List α} (k : Nat) : cutL l none (some (k : Int)) = l.take k := by
  unfold cutL
  rw [HT.sIx_none, HT.sIx_nat, List.drop_zero, Nat.sub_zero]
  rw [List.take_eq_take_iff]
  omega
theorem cut_from {α : Type} {l : List α} (k : Nat) : cutL l (some (k : Int)) none = l.drop k := by
  unfold cutL
  rw [HT.sIx_none, HT.sIx_nat]
  by_cases h : k ≤ l.length
  · rw [Nat.min_eq_left h, List.take_of_length_le (by rw [List.length_drop]; omega)]
  · rw [Nat.min_eq_right (by omega), List.drop_of_length_le (Nat.le_refl _), List.drop_of_length_le (by omega), List.take_nil]
theorem sl_to {l : List D} (k : Nat) : slD none (some (k : Int)) (.lst l) = some (.lst (l.take k)) := by
  show some (D.lst (cutL l none (some (k : Int)))) = _
  rw [cut_to]
theorem sl_from {l : List D} (k : Nat) : slD (some (k : Int)) none (.lst l) = some (.lst (l.drop k)) := by
  show some (D.lst (cutL l (some (k : Int)) none)) = _
  rw [cut_from]
theorem sl_strs {L : List Str} (k : Nat) : slD none (some (k : Int)) (encS L) = some (encS (L.take k)) := by
  unfold encS
  rw [sl_to, List.map_take]
theorem ix_strs {L : List Str} {i : Nat} {x : Str} (h : L[i]? = some x) : ixD (encS L) (.int (i : Int)) = some (.str x) := by
  refine ixD_nat ?_
  rw [List.getElem?_map, h]
  rfl
theorem rng (n : Nat) (h : n ≤ 1000000000) : -4611686018427387904 ≤ (n : Int) ∧ (n : Int) < 4611686018427387904 := ⟨by omega, by omega⟩
theorem rangeL_eq (n : Nat) : rangeL 0 n = (List.range n).map fun (i : Nat) => D.int (i : Int) := by
  unfold rangeL
  refine List.map_congr_left fun i _ => ?_
  rw [Int.zero_add]
end PD
namespace PL
variable {α : Type} [DecidableEq α]
/-! ### pledges, plainly -/
abbrev nm (p : List (α × Int)) : List α := p.map (·.1)
def W (p : List (α × Int)) (L : List α) : List α := (p.filter fun r => decide (r.2 ≤ (L.length : Int) - (if r.1 ∈ L then 1 else 0))).map (·.1)
theorem sub_filter : ∀ {A N : List α}, A.Sublist N → N.Nodup → N.filter (fun x => decide (x ∈ A)) = A := by
  intro A N h
  induction h with
  | slnil => intro _; rfl
  | @cons A N a h ih =>
    intro hn
    rw [List.nodup_cons] at hn
    have : a ∉ A := fun z => hn.1 (h.subset z)
    rw [List.filter_cons_of_neg (by simpa using this)]
    exact ih hn.2
  | @cons_cons A N a h ih =>
    intro hn
    rw [List.nodup_cons] at hn
    rw [List.filter_cons_of_pos (by simp)]
    congr 1
    rw [← ih hn.2]
    refine List.filter_congr fun x hx => ?_
    have : x ≠ a := fun z => hn.1 (z ▸ hx)
    have e : (List.filter (fun x => decide (x ∈ A)) N) = A := ih hn.2
    rw [e]
    simp [this]
theorem sub_ext {A B N : List α} (ha : A.Sublist N) (hb : B.Sublist N) (hn : N.Nodup) (h : ∀ x, x ∈ A ↔ x ∈ B) : A = B := by
  rw [← sub_filter ha hn, ← sub_filter hb hn]
  exact List.filter_congr fun x _ => by simp [h x]
theorem sub_of {A B N : List α} (ha : A.Sublist N) (hb : B.Sublist N) (hn : N.Nodup) (h : ∀ x, x ∈ A → x ∈ B) : A.Sublist B := by
  have e : A = B.filter (fun x => decide (x ∈ A)) := by
    refine sub_ext ha ((List.filter_sublist).trans hb) hn fun x => ?_
    rw [List.mem_filter]
    simp
    exact fun hx => h x hx
  rw [e]
  exact List.filter_sublist
theorem len_lt {A B N : List α} (ha : A.Sublist N) (hb : B.Sublist N) (hn : N.Nodup) (h : ∀ x, x ∈ A → x ∈ B) (hne : A ≠ B) : A.length < B.length := by
  have s := sub_of ha hb hn h
  have := s.length_le
  rcases Nat.lt_or_ge A.length B.length with h1 | h1
  · exact h1
  · exact absurd (s.eq_of_length (by omega)) hne
theorem W_sub (p : List (α × Int)) (L : List α) : (W p L).Sublist (nm p) := List.Sublist.map _ List.filter_sublist
theorem mem_W {p : List (α × Int)} {L : List α} {x : α} : x ∈ W p L ↔ ∃ r ∈ p, r.1 = x ∧ r.2 ≤ (L.length : Int) - (if x ∈ L then 1 else 0) := by
  unfold W
  rw [List.mem_map]
  constructor
  · rintro ⟨r, hr, rfl⟩
    rw [List.mem_filter] at hr
    exact ⟨r, hr.1, rfl, of_decide_eq_true hr.2⟩
  · rintro ⟨r, hr, rfl, h⟩
    exact ⟨r, List.mem_filter.mpr ⟨hr, decide_eq_true h⟩, rfl⟩
/-- told less oneself grows -/
theorem less_le {L M N : List α} (hl : L.Sublist N) (hm : M.Sublist N) (hn : N.Nodup) (h : ∀ x, x ∈ L → x ∈ M) (x : α) : (L.length : Int) - (if x ∈ L then 1 else 0) ≤ (M.length : Int) - (if x ∈ M then 1 else 0) := by
  have h1 := (sub_of hl hm hn h).length_le
  by_cases a : x ∈ L
  · rw [if_pos a, if_pos (h x a)]; omega
  · rw [if_neg a]
    by_cases b : x ∈ M
    · have : L ≠ M := fun z => a (z ▸ b)
      have := len_lt hl hm hn h this
      rw [if_pos b]; omega
    · rw [if_neg b]; omega
theorem W_mono {p : List (α × Int)} {L M : List α} (hl : L.Sublist (nm p)) (hm : M.Sublist (nm p)) (hn : (nm p).Nodup) (h : ∀ x, x ∈ L → x ∈ M) : ∀ x, x ∈ W p L → x ∈ W p M := fun x hx => by
  obtain ⟨r, hr, e, hle⟩ := mem_W.mp hx
  exact mem_W.mpr ⟨r, hr, e, Int.le_trans hle (less_le hl hm hn h x)⟩
/-- the fewest, the most -/
structure IsL (p : List (α × Int)) (F : List α) : Prop where
  sub : F.Sublist (nm p)
  fix : W p F = F
  least : ∀ G, G.Sublist (nm p) → (∀ x, x ∈ W p G → x ∈ G) → ∀ x, x ∈ F → x ∈ G
structure IsM (p : List (α × Int)) (F : List α) : Prop where
  sub : F.Sublist (nm p)
  fix : W p F = F
  most : ∀ G, G.Sublist (nm p) → (∀ x, x ∈ G → x ∈ W p G) → ∀ x, x ∈ G → x ∈ F
/-- numbers no greater, name by name -/
structure Lower (p q : List (α × Int)) : Prop where
  names : nm p = nm q
  le : ∀ r ∈ p, ∀ s ∈ q, r.1 = s.1 → r.2 ≤ s.2
theorem W_lower {p q : List (α × Int)} (h : Lower p q) (L : List α) : ∀ x, x ∈ W q L → x ∈ W p L := fun x hx => by
  obtain ⟨r, hr, rfl, hle⟩ := mem_W.mp hx
  have : r.1 ∈ nm p := by rw [h.names]; exact List.mem_map_of_mem hr
  obtain ⟨s, hs, e⟩ := List.mem_map.mp this
  exact mem_W.mpr ⟨s, hs, e, Int.le_trans (h.le s hs r hr e) hle⟩
theorem few_lower {p q : List (α × Int)} (h : Lower p q) {F G : List α} (hF : IsL p F) (hG : IsL q G) : ∀ x, x ∈ G → x ∈ F :=
  hG.least F (by rw [← h.names]; exact hF.sub) fun x hx => by
    have := W_lower h F x hx
    rw [hF.fix] at this
    exact this
theorem most_lower {p q : List (α × Int)} (h : Lower p q) {F G : List α} (hF : IsM p F) (hG : IsM q G) : ∀ x, x ∈ G → x ∈ F :=
  hF.most G (by rw [h.names]; exact hG.sub) fun x hx => by
    refine W_lower h G x ?_
    rw [hG.fix]
    exact hx
/-! ### counts -/
def cnt (p : List (α × Int)) (c : Int) : Nat := (p.filter fun r => decide (r.2 ≤ c)).length
theorem cnt_lower {p q : List (α × Int)} (h : Lower p q) (hn : (nm p).Nodup) (c : Int) : cnt q c ≤ cnt p c := by
  unfold cnt
  have e : ∀ l : List (α × Int), (l.filter fun r => decide (r.2 ≤ c)).length = ((l.filter fun r => decide (r.2 ≤ c)).map (·.1)).length := fun l => (List.length_map ..).symm
  rw [e, e]
  refine List.Nodup.length_le_of_subset ?_ fun x hx => ?_
  · refine List.Nodup.sublist (List.Sublist.map _ List.filter_sublist) ?_
    show (nm q).Nodup
    rw [← h.names]
    exact hn
  · obtain ⟨r, hr, rfl⟩ := List.mem_map.mp hx
    rw [List.mem_filter] at hr
    have : r.1 ∈ nm p := by rw [h.names]; exact List.mem_map_of_mem hr.1
    obtain ⟨s, hs, e⟩ := List.mem_map.mp this
    exact List.mem_map.mpr ⟨s, List.mem_filter.mpr ⟨hs, decide_eq_true (Int.le_trans (h.le s hs r hr.1 e) (of_decide_eq_true hr.2))⟩, e⟩
/-- what is asked of those who are won over -/
structure St (p : List (α × Int)) (won : List α) : Prop where
  nd : won.Nodup
  sub : ∀ x ∈ won, x ∈ nm p
  all : ∀ c : Int, 0 ≤ c → c < p.length → c < (won.length : Int) + (p.filter fun r => decide (r.1 ∉ won) && decide (r.2 ≤ c)).length
  few : won = [] ∨ ∃ c : Int, 0 ≤ c ∧ c < p.length ∧ (cnt p c : Int) + won.length - 1 ≤ c
theorem st_lower {p q : List (α × Int)} (h : Lower p q) (hn : (nm p).Nodup) {w v : List α} (hw : St p w) (hv : St q v) : w.length ≤ v.length := by
  rcases hw.few with e | ⟨c, h0, h1, h2⟩
  · rw [e]; exact Nat.zero_le _
  · have hl : p.length = q.length := by have := congrArg List.length h.names; simpa using this
    have a := hv.all c h0 (by omega)
    have b := cnt_lower h hn c
    have d : (q.filter fun r => decide (r.1 ∉ v) && decide (r.2 ≤ c)).length ≤ cnt q c := by
      unfold cnt
      rw [← List.countP_eq_length_filter, ← List.countP_eq_length_filter]
      refine List.countP_mono_left fun r _ hr => ?_
      rw [Bool.and_eq_true] at hr
      exact hr.2
    omega
/-- some names are let join anyhow -/
def free (p : List (α × Int)) (S : List α) : List (α × Int) := p.map fun r => (r.1, if r.1 ∈ S then 0 else r.2)
theorem nm_free (p : List (α × Int)) (S : List α) : nm (free p S) = nm p := by
  unfold nm free
  rw [List.map_map]
  rfl
theorem cnt_free (p : List (α × Int)) (S : List α) (hn : (nm p).Nodup) (hS : S.Nodup) (hs : ∀ x ∈ S, x ∈ nm p) (c : Int) (hc : 0 ≤ c) : cnt (free p S) c = S.length + (p.filter fun r => decide (r.1 ∉ S) && decide (r.2 ≤ c)).length := by
  have h1 : cnt (free p S) c = (p.filter fun r => decide (r.1 ∈ S) || decide (r.2 ≤ c)).length := by
    unfold cnt free
    rw [List.filter_map, List.length_map]
    congr 1
    refine List.filter_congr fun r _ => ?_
    by_cases e : r.1 ∈ S
    · simp [e, hc]
    · simp [e]
  have h2 : ∀ l : List (α × Int), (l.filter fun r => decide (r.1 ∈ S) || decide (r.2 ≤ c)).length = (l.filter fun r => decide (r.1 ∈ S)).length + (l.filter fun r => decide (r.1 ∉ S) && decide (r.2 ≤ c)).length := by
    intro l
    induction l with
    | nil => rfl
    | cons r l ih =>
      by_cases e : r.1 ∈ S
      · simp only [List.filter_cons, e, decide_true, Bool.true_or, if_true, not_true_eq_false, decide_false, Bool.false_and, List.length_cons]
        simp only [Bool.false_eq_true, if_false]
        omega
      · by_cases e2 : r.2 ≤ c
        · simp only [List.filter_cons, e, e2, decide_true, decide_false, Bool.false_or, if_true, not_false_eq_true, Bool.true_and, List.length_cons, Bool.false_eq_true, if_false]
          omega
        · simp only [List.filter_cons, e, e2, decide_true, decide_false, Bool.false_or, not_false_eq_true, Bool.true_and, Bool.false_eq_true, if_false]
          exact ih
  have h3 : (p.filter fun r => decide (r.1 ∈ S)).length = S.length := by
    have hp : ((p.filter fun r => decide (r.1 ∈ S)).map (·.1)).Perm S := by
      refine (List.perm_ext_iff_of_nodup (List.Nodup.sublist (List.Sublist.map _ List.filter_sublist) hn) hS).mpr fun x => ?_
      rw [List.mem_map]
      constructor
      · rintro ⟨r, hr, rfl⟩
        exact of_decide_eq_true (List.mem_filter.mp hr).2
      · intro hx
        obtain ⟨r, hr, e⟩ := List.mem_map.mp (hs x hx)
        exact ⟨r, List.mem_filter.mpr ⟨hr, decide_eq_true (by rw [e]; exact hx)⟩, e⟩
    have := hp.length_eq
    rwa [List.length_map] at this
  rw [h1, h2, h3]
/-- all join just if the counts are great enough -/
theorem all_join {p : List (α × Int)} (hn : (nm p).Nodup) {F : List α} (hF : IsL p F) (h : ∀ c : Int, 0 ≤ c → c < p.length → c < cnt p c) : F = nm p := by
  apply Classical.byContradiction
  intro hne
  have hlt : F.length < (nm p).length := len_lt hF.sub (List.Sublist.refl _) hn (fun x hx => hF.sub.subset hx) hne
  rw [List.length_map] at hlt
  have h1 := h F.length (by omega) (by omega)
  have h2 : cnt p F.length ≤ F.length := by
    unfold cnt
    rw [← List.length_map (f := fun r : α × Int => r.1)]
    refine List.Nodup.length_le_of_subset (List.Nodup.sublist (List.Sublist.map _ List.filter_sublist) hn) fun x hx => ?_
    obtain ⟨r, hr, rfl⟩ := List.mem_map.mp hx
    rw [List.mem_filter] at hr
    have hle := of_decide_eq_true hr.2
    apply Classical.byContradiction
    intro hxF
    refine hxF ?_
    rw [← hF.fix]
    refine mem_W.mpr ⟨r, hr.1, rfl, ?_⟩
    rw [if_neg hxF]
    omega
  omega
theorem not_all {p : List (α × Int)} (hn : (nm p).Nodup) {F : List α} (hF : IsL p F) {c : Int} (h0 : 0 ≤ c) (h1 : c < p.length) (h : (cnt p c : Int) ≤ c) : F ≠ nm p := by
  intro e
  have hsub : ((p.filter fun r => decide (r.2 ≤ c)).map (·.1)).Sublist (nm p) := List.Sublist.map _ List.filter_sublist
  have hlen : ((p.filter fun r => decide (r.2 ≤ c)).map (·.1)).length = cnt p c := List.length_map ..
  have hG := hF.least _ hsub (fun x hx => by
    obtain ⟨r, hr, rfl, hle⟩ := mem_W.mp hx
    refine List.mem_map.mpr ⟨r, List.mem_filter.mpr ⟨hr, decide_eq_true ?_⟩, rfl⟩
    rw [hlen] at hle
    split at hle <;> omega)
  have : F.length ≤ cnt p c := by
    rw [← hlen]
    exact List.Nodup.length_le_of_subset (hF.sub.nodup hn) hG
  rw [e, List.length_map] at this
  omega
theorem won_all {p : List (α × Int)} (hn : (nm p).Nodup) {w F : List α} (hw : St p w) (hF : IsL (free p w) F) : F = nm p := by
  rw [← nm_free p w]
  refine all_join (by rw [nm_free]; exact hn) hF fun c h0 h1 => ?_
  rw [cnt_free p w hn hw.nd hw.sub c h0]
  have : c < p.length := by unfold free at h1; rwa [List.length_map] at h1
  have := hw.all c h0 this
  omega
theorem won_few {p : List (α × Int)} (hn : (nm p).Nodup) {w F : List α} (hw : St p w) (hne : w ≠ []) (hF : IsL (free p (w.drop 1)) F) : F ≠ nm p := by
  rcases hw.few with e | ⟨c, h0, h1, h2⟩
  · exact absurd e hne
  · rw [← nm_free p (w.drop 1)]
    refine not_all (by rw [nm_free]; exact hn) hF h0 (by unfold free; rw [List.length_map]; exact h1) ?_
    rw [cnt_free p (w.drop 1) hn (List.Nodup.sublist (List.drop_sublist 1 w) hw.nd) (fun x hx => hw.sub x ((List.drop_sublist 1 w).subset hx)) c h0]
    have a : (p.filter fun r => decide (r.1 ∉ w.drop 1) && decide (r.2 ≤ c)).length ≤ cnt p c := by
      unfold cnt
      rw [← List.countP_eq_length_filter, ← List.countP_eq_length_filter]
      refine List.countP_mono_left fun r _ hr => ?_
      rw [Bool.and_eq_true] at hr
      exact hr.2
    have b : (w.drop 1).length = w.length - 1 := List.length_drop
    have d : 0 < w.length := List.length_pos_iff.mpr hne
    omega
/-! ### how many can be kept -/
def kept (p : List (α × Int)) (m : Nat) : Bool := decide ((cnt p ((m : Int) - 1) : Int) = m) && decide ((cnt p (m : Int) : Int) = m)
def counts (p : List (α × Int)) : List Nat := (List.range (p.length + 1)).filter (kept p)
theorem uniq {p : List (α × Int)} (hn : (nm p).Nodup) {r s : α × Int} (hr : r ∈ p) (hs : s ∈ p) (e : r.1 = s.1) : r = s := by
  have h : p.Pairwise (fun a b => a.1 ≠ b.1) := by
    have := List.nodup_iff_pairwise_ne.mp hn
    rwa [List.pairwise_map] at this
  induction p with
  | nil => cases hr
  | cons a p ih =>
    rw [List.pairwise_cons] at h
    have hn' : (nm p).Nodup := by
      have := hn
      unfold nm at this
      rw [List.map_cons, List.nodup_cons] at this
      exact this.2
    rcases List.mem_cons.mp hr with e1 | hr'
    · rcases List.mem_cons.mp hs with e2 | hs'
      · rw [e1, e2]
      · exact absurd (e1 ▸ e) (h.1 s hs')
    · rcases List.mem_cons.mp hs with e2 | hs'
      · exact absurd (e2 ▸ e.symm) (h.1 r hr')
      · exact ih hn' hr' hs' h.2
theorem kept_of {p : List (α × Int)} (hn : (nm p).Nodup) {L : List α} (hs : L.Sublist (nm p)) (hW : W p L = L) : L.length ∈ counts p := by
  have key : ∀ c : Int, (L.length : Int) - 1 ≤ c → c ≤ L.length → (p.filter fun r => decide (r.2 ≤ c)).map (·.1) = L := by
    intro c h1 h2
    refine sub_ext (List.Sublist.map _ List.filter_sublist) hs hn fun x => ?_
    rw [List.mem_map]
    constructor
    · rintro ⟨r, hr, rfl⟩
      rw [List.mem_filter] at hr
      have hle := of_decide_eq_true hr.2
      apply Classical.byContradiction
      intro hx
      refine hx ?_
      rw [← hW]
      refine mem_W.mpr ⟨r, hr.1, rfl, ?_⟩
      rw [if_neg hx]
      omega
    · intro hx
      have hx' := hx
      rw [← hW] at hx'
      obtain ⟨r, hr, rfl, hle⟩ := mem_W.mp hx'
      rw [if_pos hx] at hle
      exact ⟨r, List.mem_filter.mpr ⟨hr, decide_eq_true (by omega)⟩, rfl⟩
  have hl := hs.length_le
  rw [List.length_map] at hl
  have c1 : cnt p ((L.length : Int) - 1) = L.length := by
    have := congrArg List.length (key ((L.length : Int) - 1) (by omega) (by omega))
    rwa [List.length_map] at this
  have c2 : cnt p (L.length : Int) = L.length := by
    have := congrArg List.length (key (L.length : Int) (by omega) (by omega))
    rwa [List.length_map] at this
  refine List.mem_filter.mpr ⟨List.mem_range.mpr (by omega), ?_⟩
  unfold kept
  rw [c1, c2]
  simp
/-! numbers one more, and one who joins anyhow -/
def more (p : List (α × Int)) (z : α) : List (α × Int) := p.map (fun r => (r.1, r.2 + 1)) ++ [(z, 0)]
theorem nm_more (p : List (α × Int)) (z : α) : nm (more p z) = nm p ++ [z] := by
  unfold nm more
  rw [List.map_append, List.map_map]
  rfl
theorem cnt_more (p : List (α × Int)) (z : α) (c : Int) : cnt (more p z) c = cnt p (c - 1) + (if 0 ≤ c then 1 else 0) := by
  unfold cnt more
  rw [List.filter_append, List.length_append, List.filter_map, List.length_map]
  congr 1
  · congr 1
    refine List.filter_congr fun r _ => ?_
    show decide (r.2 + 1 ≤ c) = decide (r.2 ≤ c - 1)
    rw [Bool.eq_iff_iff, decide_eq_true_iff, decide_eq_true_iff]
    omega
  · by_cases h : 0 ≤ c
    · rw [if_pos h, List.filter_cons_of_pos (by simpa using h)]
      rfl
    · rw [if_neg h, List.filter_cons_of_neg (by simpa using h)]
      rfl
theorem counts_more (p : List (α × Int)) (z : α) : counts (more p z) = (counts p).map (· + 1) := by
  unfold counts
  have hl : (more p z).length = p.length + 1 := by unfold more; rw [List.length_append, List.length_map]; rfl
  rw [hl, List.range_succ_eq_map (n := p.length + 1), List.filter_cons_of_neg, List.filter_map]
  · congr 1
    refine List.filter_congr fun m _ => ?_
    show kept (more p z) (m + 1) = kept p m
    unfold kept
    rw [cnt_more, cnt_more]
    rw [Bool.eq_iff_iff, Bool.and_eq_true, Bool.and_eq_true, decide_eq_true_iff, decide_eq_true_iff, decide_eq_true_iff, decide_eq_true_iff]
    rw [if_pos (by omega), if_pos (by omega)]
    have e1 : ((m + 1 : Nat) : Int) - 1 - 1 = (m : Int) - 1 := by omega
    have e2 : ((m + 1 : Nat) : Int) - 1 = (m : Int) := by omega
    rw [e1, e2]
    omega
  · unfold kept
    rw [cnt_more, cnt_more]
    simp
    omega
theorem W_more {p : List (α × Int)} {z : α} (hz : z ∉ nm p) (L : List α) (hL : ∀ x ∈ L, x ∈ nm p) : W (more p z) (L ++ [z]) = W p L ++ [z] := by
  unfold W more
  rw [List.filter_append, List.map_append, List.filter_map, List.map_map]
  congr 1
  · rw [List.filter_congr (q := fun r => decide (r.2 ≤ (L.length : Int) - (if r.1 ∈ L then 1 else 0)))]
    · rfl
    · intro r hr
      have hne : r.1 ≠ z := fun e => hz (e ▸ List.mem_map_of_mem hr)
      show decide (r.2 + 1 ≤ ((L ++ [z]).length : Int) - (if r.1 ∈ L ++ [z] then 1 else 0)) = decide _
      have hm : (r.1 ∈ L ++ [z]) = (r.1 ∈ L) := by simp [hne]
      rw [Bool.eq_iff_iff, decide_eq_true_iff, decide_eq_true_iff, List.length_append]
      simp only [hm]
      split <;> (simp only [List.length_cons, List.length_nil]; omega)
  · rw [List.filter_cons_of_pos]
    · rfl
    · rw [decide_eq_true_iff]
      simp only [List.length_append, List.length_cons, List.length_nil]
      split <;> omega
theorem few_more {p : List (α × Int)} {z : α} (hn : (nm p).Nodup) (hz : z ∉ nm p) {F : List α} (hF : IsL p F) : IsL (more p z) (F ++ [z]) := by
  have hn' : (nm (more p z)).Nodup := by
    rw [nm_more, List.nodup_append]
    refine ⟨hn, by simp, fun a ha b hb => ?_⟩
    simp only [List.mem_singleton] at hb
    subst hb
    exact fun e => hz (e ▸ ha)
  refine ⟨?_, ?_, fun G hG hc x hx => ?_⟩
  · rw [nm_more]
    exact hF.sub.append (List.Sublist.refl _)
  · rw [W_more hz F fun x hx => hF.sub.subset hx, hF.fix]
  · have zin : z ∈ G := by
      refine hc z (mem_W.mpr ⟨(z, 0), by unfold more; simp, rfl, ?_⟩)
      by_cases h : z ∈ G
      · have := List.length_pos_of_mem h
        rw [if_pos h]; omega
      · rw [if_neg h]; omega
    have hH : (G.filter fun x => decide (x ≠ z)).Sublist (nm p) := by
      have h1 : (G.filter fun x => decide (x ≠ z)).Sublist ((nm p ++ [z]).filter fun x => decide (x ≠ z)) := by
        rw [← nm_more]
        exact hG.filter _
      rw [List.filter_append, List.filter_cons_of_neg (by simp)] at h1
      simp only [List.filter_nil, List.append_nil] at h1
      exact h1.trans List.filter_sublist
    have eG : G = (G.filter fun x => decide (x ≠ z)) ++ [z] := by
      refine sub_ext hG ?_ hn' fun x => ?_
      · rw [nm_more]
        exact hH.append (List.Sublist.refl _)
      · rw [List.mem_append, List.mem_filter]
        simp only [List.mem_singleton, decide_eq_true_eq]
        constructor
        · intro h
          by_cases e : x = z
          · exact .inr e
          · exact .inl ⟨h, e⟩
        · rintro (h | h)
          · exact h.1
          · rw [h]; exact zin
    have hcl : ∀ y, y ∈ W p (G.filter fun x => decide (x ≠ z)) → y ∈ G.filter fun x => decide (x ≠ z) := by
      intro y hy
      have h1 : y ∈ W (more p z) G := by
        rw [eG, W_more hz _ fun x hx => hH.subset hx]
        exact List.mem_append_left _ hy
      have h2 : y ∈ nm p := (W_sub p _).subset hy
      exact List.mem_filter.mpr ⟨hc y h1, decide_eq_true (fun (e : y = z) => hz (e ▸ h2))⟩
    rcases List.mem_append.mp hx with h | h
    · exact (List.mem_filter.mp (hF.least _ hH hcl x h)).1
    · rw [List.mem_singleton] at h
      rw [h]; exact zin
theorem isL_uniq {p : List (α × Int)} (hn : (nm p).Nodup) {F G : List α} (hF : IsL p F) (hG : IsL p G) : F = G :=
  sub_ext hF.sub hG.sub hn fun x => ⟨hF.least G hG.sub (fun y hy => by rw [hG.fix] at hy; exact hy) x, hG.least F hF.sub (fun y hy => by rw [hF.fix] at hy; exact hy) x⟩
theorem isM_uniq {p : List (α × Int)} (hn : (nm p).Nodup) {F G : List α} (hF : IsM p F) (hG : IsM p G) : F = G :=
  sub_ext hF.sub hG.sub hn fun x => ⟨hG.most F hF.sub (fun y hy => by rw [hF.fix]; exact hy) x, hF.most G hG.sub (fun y hy => by rw [hG.fix]; exact hy) x⟩
/-! one who never joins -/
def never (p : List (α × Int)) (z : α) : List (α × Int) := p ++ [(z, 40)]
theorem nm_never (p : List (α × Int)) (z : α) : nm (never p z) = nm p ++ [z] := by
  unfold nm never
  rw [List.map_append]
  rfl
theorem cnt_never (p : List (α × Int)) (z : α) (c : Int) (h : c < 40) : cnt (never p z) c = cnt p c := by
  unfold cnt never
  rw [List.filter_append, List.filter_cons_of_neg (by simpa using h)]
  simp
theorem counts_never (p : List (α × Int)) (z : α) (h : p.length < 39) : counts (never p z) = counts p := by
  unfold counts
  have hl : (never p z).length = p.length + 1 := by unfold never; rw [List.length_append]; rfl
  rw [hl, List.range_succ (n := p.length + 1), List.filter_append, List.filter_cons_of_neg]
  · simp only [List.filter_nil, List.append_nil]
    refine List.filter_congr fun m hm => ?_
    have := List.mem_range.mp hm
    unfold kept
    rw [cnt_never p z _ (by omega), cnt_never p z _ (by omega)]
  · unfold kept
    have : cnt p ((p.length + 1 : Nat) : Int) ≤ p.length := List.length_filter_le ..
    rw [cnt_never p z ((p.length + 1 : Nat) : Int) (by omega)]
    simp only [Bool.and_eq_true, decide_eq_true_eq]
    omega
theorem W_never {p : List (α × Int)} {z : α} (L : List α) (h : (L.length : Int) < 40) : W (never p z) L = W p L := by
  unfold W never
  rw [List.filter_append, List.map_append, List.filter_cons_of_neg]
  · simp
  · rw [decide_eq_true_iff]
    show ¬ ((40 : Int) ≤ _ - _)
    split <;> omega
theorem most_never {p : List (α × Int)} {z : α} (hn : (nm p).Nodup) (hz : z ∉ nm p) (h : p.length < 39) {F : List α} (hF : IsM p F) : IsM (never p z) F := by
  have hlF := hF.sub.length_le
  rw [List.length_map] at hlF
  refine ⟨?_, ?_, fun G hG hc x hx => ?_⟩
  · rw [nm_never]
    exact hF.sub.trans (List.sublist_append_left _ _)
  · rw [W_never F (by omega), hF.fix]
  · have hlG := hG.length_le
    rw [nm_never, List.length_append, List.length_map] at hlG
    simp only [List.length_cons, List.length_nil] at hlG
    have hW : W (never p z) G = W p G := W_never G (by omega)
    have hGs : G.Sublist (nm p) := by
      have e : ∀ y ∈ G, y ∈ nm p := fun y hy => by
        have := hc y hy
        rw [hW] at this
        exact (W_sub p _).subset this
      have hn' : (nm (never p z)).Nodup := by
        rw [nm_never, List.nodup_append]
        refine ⟨hn, by simp, fun a ha b hb => ?_⟩
        simp only [List.mem_singleton] at hb
        subst hb
        exact fun e => hz (e ▸ ha)
      exact sub_of hG (by rw [nm_never]; exact List.sublist_append_left _ _) hn' e
    exact hF.most G hGs (fun y hy => by rw [← hW]; exact hc y hy) x hx
/-! ### those who are won over -/
theorem sorted_count {m : List Int} (hs : m.Pairwise (· ≤ ·)) (k : Int) (hk : 0 ≤ k) : (∀ (i : Nat) (h : i < m.length), m[i] ≤ k + i) ↔ ∀ c : Int, 0 ≤ c → c < k + m.length → c < k + (m.filter fun x => decide (x ≤ c)).length := by
  constructor
  · intro h c h0 h1
    by_cases hc : c < k
    · omega
    · have hi : (c - k).toNat < m.length := by omega
      have hmi := h (c - k).toNat hi
      have hall : ∀ x ∈ m.take ((c - k).toNat + 1), x ≤ c := by
        intro x hx
        obtain ⟨j, hj, e⟩ := List.mem_iff_getElem.mp hx
        rw [List.getElem_take] at e
        rw [List.length_take] at hj
        by_cases ej : j = (c - k).toNat
        · subst ej
          rw [← e]
          omega
        · have := List.pairwise_iff_getElem.mp hs j (c - k).toNat (by omega) hi (by omega)
          rw [← e]
          omega
      have h2 : (m.take ((c - k).toNat + 1)).length ≤ (m.filter fun x => decide (x ≤ c)).length := by
        have e : (m.take ((c - k).toNat + 1)).filter (fun x => decide (x ≤ c)) = m.take ((c - k).toNat + 1) := List.filter_eq_self.mpr fun x hx => decide_eq_true (hall x hx)
        rw [← e]
        exact ((List.take_sublist _ _).filter _).length_le
      rw [List.length_take] at h2
      omega
  · intro h i hi
    apply Classical.byContradiction
    intro hgt
    have h1 := h (k + i) (by omega) (by omega)
    have h2 : (m.filter fun x => decide (x ≤ k + (i : Int))).length ≤ i := by
      have e : m = m.take i ++ m.drop i := (List.take_append_drop i m).symm
      rw [e, List.filter_append]
      have e2 : (m.drop i).filter (fun x => decide (x ≤ k + (i : Int))) = [] := by
        rw [List.filter_eq_nil_iff]
        intro x hx
        obtain ⟨j, hj, ex⟩ := List.mem_iff_getElem.mp hx
        rw [List.getElem_drop] at ex
        rw [List.length_drop] at hj
        have : m[i] ≤ x := by
          by_cases ej : j = 0
          · subst ej
            rw [← ex]
            simp
          · have := List.pairwise_iff_getElem.mp hs i (i + j) hi (by omega) (by omega)
            rw [ex] at this
            exact this
        rw [decide_eq_true_iff]
        omega
      rw [e2, List.append_nil]
      have := (List.filter_sublist (p := fun x => decide (x ≤ k + (i : Int))) (l := m.take i)).length_le
      rw [List.length_take] at this
      omega
    omega
/-- what is left when the first j of the order are taken -/
def left (p : List (α × Int)) (T : List α) : List (α × Int) := p.filter fun r => decide (r.1 ∉ T)
def AJ (p : List (α × Int)) (T : List α) : Prop := ∀ c : Int, 0 ≤ c → c < p.length → c < (T.length : Int) + ((left p T).filter fun r => decide (r.2 ≤ c)).length
theorem left_len {p : List (α × Int)} (hn : (nm p).Nodup) {T : List α} (hT : T.Nodup) (hs : ∀ x ∈ T, x ∈ nm p) : T.length + (left p T).length = p.length := by
  have h3 : (p.filter fun r => decide (r.1 ∈ T)).length = T.length := by
    have hp : ((p.filter fun r => decide (r.1 ∈ T)).map (·.1)).Perm T := by
      refine (List.perm_ext_iff_of_nodup (List.Nodup.sublist (List.Sublist.map _ List.filter_sublist) hn) hT).mpr fun x => ?_
      rw [List.mem_map]
      constructor
      · rintro ⟨r, hr, rfl⟩
        exact of_decide_eq_true (List.mem_filter.mp hr).2
      · intro hx
        obtain ⟨r, hr, e⟩ := List.mem_map.mp (hs x hx)
        exact ⟨r, List.mem_filter.mpr ⟨hr, decide_eq_true (by rw [e]; exact hx)⟩, e⟩
    have := hp.length_eq
    rwa [List.length_map] at this
  unfold left
  rw [← h3]
  have : ∀ l : List (α × Int), (l.filter fun r => decide (r.1 ∈ T)).length + (l.filter fun r => decide (r.1 ∉ T)).length = l.length := by
    intro l
    induction l with
    | nil => rfl
    | cons r l ih =>
      by_cases e : r.1 ∈ T
      · simp only [List.filter_cons, e, decide_true, if_true, not_true_eq_false, decide_false, Bool.false_eq_true, if_false, List.length_cons]
        omega
      · simp only [List.filter_cons, e, decide_false, not_false_eq_true, decide_true, if_true, Bool.false_eq_true, if_false, List.length_cons]
        omega
  exact this p
theorem aj_sorted {p : List (α × Int)} (hn : (nm p).Nodup) {T : List α} (hT : T.Nodup) (hs : ∀ x ∈ T, x ∈ nm p) {m : List Int} (hp : m.Perm ((left p T).map (·.2))) (hm : m.Pairwise (· ≤ ·)) :
    (∀ (i : Nat) (h : i < m.length), m[i] ≤ (T.length : Int) + i) ↔ AJ p T := by
  rw [sorted_count hm (T.length : Int) (by omega)]
  have hl : T.length + m.length = p.length := by
    rw [hp.length_eq, List.length_map]
    exact left_len hn hT hs
  have hc : ∀ c : Int, (m.filter fun x => decide (x ≤ c)).length = ((left p T).filter fun r => decide (r.2 ≤ c)).length := by
    intro c
    rw [(hp.filter _).length_eq, List.filter_map, List.length_map]
    rfl
  unfold AJ
  constructor
  · intro h c h0 h1
    rw [← hc]
    exact h c h0 (by omega)
  · intro h c h0 h1
    rw [hc]
    exact h c h0 (by omega)
theorem st_of {p : List (α × Int)} (hn : (nm p).Nodup) {q : List (Int × α)} (hq : q.Perm (p.map fun r => (-r.2, r.1))) (hs : q.Pairwise fun a b => a.1 ≤ b.1) {k : Nat} (hk : k ≤ p.length) (h1 : AJ p ((q.map (·.2)).take k)) (h2 : k = 0 ∨ ¬ AJ p ((q.map (·.2)).take (k - 1))) {won : List α} (hw : won.Perm ((q.map (·.2)).take k)) : St p won := by
  have hpn : (q.map (·.2)).Perm (nm p) := by
    have := hq.map (·.2)
    rw [List.map_map] at this
    exact this
  have hqn : (q.map (·.2)).Nodup := hpn.nodup_iff.mpr hn
  have hT : ∀ j, ((q.map (·.2)).take j).Nodup := fun j => List.Nodup.sublist (List.take_sublist _ _) hqn
  have hsub : ∀ j, ∀ x ∈ (q.map (·.2)).take j, x ∈ nm p := fun j x hx => hpn.mem_iff.mp ((List.take_sublist _ _).subset hx)
  have hql : q.length = p.length := by have := hq.length_eq; rwa [List.length_map] at this
  have hlen : ∀ j, j ≤ p.length → ((q.map (·.2)).take j).length = j := fun j hj => by
    rw [List.length_take, List.length_map]
    omega
  have mw : ∀ x, x ∈ won ↔ x ∈ (q.map (·.2)).take k := fun x => hw.mem_iff
  have hwl : won.length = k := by rw [hw.length_eq]; exact hlen k hk
  refine ⟨hw.nodup_iff.mpr (hT k), fun x hx => hsub k x ((mw x).mp hx), fun c h0 hc => ?_, ?_⟩
  · have := h1 c h0 hc
    rw [hlen k hk] at this
    rw [hwl]
    have e : (p.filter fun r => decide (r.1 ∉ won) && decide (r.2 ≤ c)) = (left p ((q.map (·.2)).take k)).filter fun r => decide (r.2 ≤ c) := by
      unfold left
      rw [List.filter_filter]
      refine List.filter_congr fun r _ => ?_
      rw [Bool.and_comm]
      simp only [mw]
    rw [e]
    exact this
  · rcases h2 with h2 | h2
    · left
      exact List.eq_nil_of_length_eq_zero (by omega)
    · by_cases hk0 : k = 0
      · left
        exact List.eq_nil_of_length_eq_zero (by omega)
      · right
        unfold AJ at h2
        rw [Classical.not_forall] at h2
        obtain ⟨c, h2⟩ := h2
        rw [Classical.not_imp] at h2
        obtain ⟨h0, h2⟩ := h2
        rw [Classical.not_imp] at h2
        obtain ⟨hc, h2⟩ := h2
        rw [hlen (k - 1) (by omega)] at h2
        refine ⟨c, h0, hc, ?_⟩
        rw [hwl]
        have hL := left_len hn (hT (k - 1)) (hsub (k - 1))
        rw [hlen (k - 1) (by omega)] at hL
        -- one that is left has a greater number
        have hex : ∃ y ∈ left p ((q.map (·.2)).take (k - 1)), c < y.2 := by
          apply Classical.byContradiction
          intro hno
          have hall : ∀ y ∈ left p ((q.map (·.2)).take (k - 1)), decide (y.2 ≤ c) = true := fun y hy => by
            rw [decide_eq_true_iff]
            apply Classical.byContradiction
            intro hgt
            exact hno ⟨y, hy, by omega⟩
          rw [List.filter_eq_self.mpr hall] at h2
          omega
        obtain ⟨y, hy, hyc⟩ := hex
        have hbig : ∀ r ∈ p, r.1 ∈ (q.map (·.2)).take (k - 1) → c < r.2 := by
          intro r hr hx
          have e : q = q.take (k - 1) ++ q.drop (k - 1) := (List.take_append_drop _ _).symm
          rw [← List.map_take] at hx
          obtain ⟨a, ha, ea⟩ := List.mem_map.mp hx
          have hyp : y ∈ p := (List.mem_filter.mp hy).1
          have hynot : y.1 ∉ (q.map (·.2)).take (k - 1) := of_decide_eq_true (List.mem_filter.mp hy).2
          have hyq : (-y.2, y.1) ∈ q := hq.mem_iff.mpr (List.mem_map.mpr ⟨y, hyp, rfl⟩)
          have hyd : (-y.2, y.1) ∈ q.drop (k - 1) := by
            rw [e] at hyq
            rcases List.mem_append.mp hyq with h | h
            · exact absurd (by rw [← List.map_take]; exact List.mem_map.mpr ⟨_, h, rfl⟩) hynot
            · exact h
          rw [e, List.pairwise_append] at hs
          have hle := hs.2.2 a ha _ hyd
          have haq : a ∈ q := (List.take_sublist _ _).subset ha
          obtain ⟨s, hsp, es⟩ := List.mem_map.mp (hq.mem_iff.mp haq)
          have : s = r := uniq hn hsp hr (by rw [← ea, ← es])
          subst this
          rw [← es] at hle
          simp only at hle
          omega
        have hcnt : cnt p c = ((left p ((q.map (·.2)).take (k - 1))).filter fun r => decide (r.2 ≤ c)).length := by
          unfold cnt left
          rw [List.filter_filter]
          congr 1
          refine List.filter_congr fun r hr => ?_
          by_cases hx : r.1 ∈ (q.map (·.2)).take (k - 1)
          · have := hbig r hr hx
            have h3 : ¬ (r.2 ≤ c) := by omega
            simp [h3]
          · simp [hx]
        omega
end PL
namespace K41
open PySem PySem.Spec L2 PD
def top (i : Nat) : Stmt := PySem.Challenge.pw_manychoose_k41_pledges_that_change.main.body.getD i (.Pass ⟨0, 0, 0, 0⟩)
structure Fac (mg : Str → Option Value) : Prop where
  f_abs : mg "abs" = none
  f_bool : mg "bool" = none
  f_dict : mg "dict" = none
  f_int : mg "int" = none
  f_isinstance : mg "isinstance" = none
  f_len : mg "len" = none
  f_list : mg "list" = none
  f_range : mg "range" = none
  f_sorted : mg "sorted" = none
  f_str : mg "str" = none
  f_tuple : mg "tuple" = none
  c_LETTERS : ∃ t, mg "LETTERS" = some (.str "abcdefghijklmnopqrstuvwxyz" t)
  c_LONGEST : ∃ t, mg "LONGEST" = some (.int (12) t)
  c_MOST : ∃ t, mg "MOST" = some (.int (40) t)
section
variable {P : Program} {w : World} {K : PySem.W.Frag} {mg : Str → Option Value} {base : Heap} {f : Addr} {fd : FuncData}
/-! ### _law_next -/
abbrev N__law_next : List Str := ["state", "limit", "cell", "value"]
abbrev P__law_next : List Str := ["state", "limit"]
theorem s__law_next : FnScope N__law_next P__law_next (defScope (top 30)) := ⟨rfl, rfl, rfl, by decide +kernel, rfl, by decide +kernel, by decide +kernel⟩
def d__law_next : PD.Env → RS :=
  (sSeq (sIf (dAndT (dTest (dOp eqD (dOp ixD (dTop 0) (dC (.int 2))) (dC (.int 0)))) (dTest (dOp ltD (dOp ixD (dTop 0) (dC (.int 1))) (dCB lenD (dCons (dOp ixD (dTop 0) (dC (.int 0))) dNil))))) (sSeq (sSet 2 (dCB absD (dCons (dCB intD (dCons (dOp ixD (dOp ixD (dTop 0) (dC (.int 0))) (dOp ixD (dTop 0) (dC (.int 1)))) dNil)) dNil)))
  (sSeq (sAug (fun i j => i + j) 0 (dC (.int 1)) (dC (.int 1)))
  (sIf (dTest (dOp geD (dVar 2) (dOp powD (dC (.int 10)) (dC (.int 18))))) (sPut 0 (dC (.int 2)) (dVar 2)) (sPut 0 (dC (.int 3)) (dOp modD (dCB intD (dCons (dOp addD (dOp addD (dOp mulD (dOp ixD (dTop 0) (dC (.int 3))) (dC (.int 48271))) (dOp modD (dCB intD (dCons (dVar 2) dNil)) (dC (.int 2147483647)))) (dC (.int 7))) dNil)) (dC (.int 2147483647))))))) sNil)
  (sSeq (sIf (dTest (dOp gtD (dOp ixD (dTop 0) (dC (.int 2))) (dC (.int 0)))) (sSeq (sSet 3 (dOp modD (dCB intD (dCons (dOp ixD (dTop 0) (dC (.int 2))) dNil)) (dVar 1)))
  (sSeq (sPut 0 (dC (.int 2)) (dOp divD (dOp ixD (dTop 0) (dC (.int 2))) (dVar 1)))
  (sRet (dVar 3)))) sNil)
  (sSeq (sPut 0 (dC (.int 3)) (dOp modD (dCB intD (dCons (dOp addD (dOp mulD (dOp ixD (dTop 0) (dC (.int 3))) (dC (.int 69621))) (dC (.int 12345))) dNil)) (dC (.int 2147483647))))
  (sRet (dOp modD (dCB intD (dCons (dOp divD (dOp ixD (dTop 0) (dC (.int 3))) (dC (.int 7))) dNil)) (dVar 1))))))
def m__law_next : D → List D → Rm := runM .fro 4 d__law_next
theorem j__law_next (h : Fac mg) : JSs ⟨P, w, K, mg, base, N__law_next, defScope (top 30), fun _ => true, 0⟩ .fro (defBody (top 30)) d__law_next :=
  (jss_cons (js_if (jt_of (jw_and (jt_cmp c_eq (je_ix (je_varT 0 rfl (visB rfl) rfl rfl) (je_top je_int) (fun _ _ => rfl)) (je_top je_int) rfl) (jw_and1 (jt_cmp c_lt (je_ix (je_varT 0 rfl (visB rfl) rfl rfl) (je_top je_int) (fun _ _ => rfl)) (je_top (je_cb b_len rfl h.f_len rfl (ja_cons (je_top (je_ix (je_varT 0 rfl (visB rfl) rfl rfl) (je_top je_int) (fun _ _ => rfl))) (ja_nil (pu := true)) (fun _ => rfl)) (by decide) rfl (fun _ => rfl) (fun _ => rfl))) rfl)))) (jss_cons (js_set 2 (je_cb b_abs rfl h.f_abs rfl (ja_cons (je_top (je_ct b_int rfl h.f_int rfl (ja_cons (je_top (je_ix (je_ix (je_varT 0 rfl (visB rfl) rfl rfl) (je_top je_int) (fun _ _ => rfl)) (je_top (je_ix (je_varT 0 rfl (visB rfl) rfl rfl) (je_top je_int) (fun _ _ => rfl))) (fun _ _ => rfl))) (ja_nil (pu := true)) (fun _ => rfl)) (by decide) rfl (fun _ => rfl) (fun _ => rfl))) (ja_nil (pu := true)) (fun _ => rfl)) (by decide) rfl (fun _ => rfl) (fun _ => rfl)) rfl (locB rfl) (fun _ _ => rfl) (.inl rfl))
  (jss_cons (js_aug (fun _ _ => ip_add) 0 rfl (visB rfl) rfl rfl je_int je_int (fun _ _ _ => rfl))
  (jss_one (js_if (jt_cmp c_ge (je_var 2 rfl (visB rfl) rfl rfl) (je_top (je_pow je_int (je_top je_int))) rfl) (jss_one (js_put 0 rfl (visB rfl) rfl rfl (je_top je_int) (je_var 2 rfl (visB rfl) rfl rfl) (fun _ _ => rfl) (fun _ _ => rfl) (fun _ => rfl) (fun _ => rfl))) (jss_one (js_put 0 rfl (visB rfl) rfl rfl (je_top je_int) (je_mod (je_ct b_int rfl h.f_int rfl (ja_cons (je_top (je_add (je_add (je_mul (je_ix (je_varT 0 rfl (visB rfl) rfl rfl) (je_top je_int) (fun _ _ => rfl)) (je_top je_int)) (je_top (je_mod (je_ct b_int rfl h.f_int rfl (ja_cons (je_top (je_var 2 rfl (visB rfl) rfl rfl)) (ja_nil (pu := true)) (fun _ => rfl)) (by decide) rfl (fun _ => rfl) (fun _ => rfl)) (je_top je_int)))) (je_top je_int))) (ja_nil (pu := true)) (fun _ => rfl)) (by decide) rfl (fun _ => rfl) (fun _ => rfl)) (je_top je_int)) (fun _ _ => rfl) (fun _ _ => rfl) (fun _ => rfl) (fun _ => rfl))))))) jss_nil)
  (jss_cons (js_if (jt_cmp c_gt (je_ix (je_varT 0 rfl (visB rfl) rfl rfl) (je_top je_int) (fun _ _ => rfl)) (je_top je_int) rfl) (jss_cons (js_set 3 (je_mod (je_ct b_int rfl h.f_int rfl (ja_cons (je_top (je_ix (je_varT 0 rfl (visB rfl) rfl rfl) (je_top je_int) (fun _ _ => rfl))) (ja_nil (pu := true)) (fun _ => rfl)) (by decide) rfl (fun _ => rfl) (fun _ => rfl)) (je_top (je_var 1 rfl (visB rfl) rfl rfl))) rfl (locB rfl) (fun _ _ => rfl) (.inl rfl))
  (jss_cons (js_put 0 rfl (visB rfl) rfl rfl (je_top je_int) (je_div (je_ix (je_varT 0 rfl (visB rfl) rfl rfl) (je_top je_int) (fun _ _ => rfl)) (je_top (je_var 1 rfl (visB rfl) rfl rfl))) (fun _ _ => rfl) (fun _ _ => rfl) (fun _ => rfl) (fun _ => rfl))
  (jss_one (js_ret (je_var 3 rfl (visB rfl) rfl rfl))))) jss_nil)
  (jss_cons (js_put 0 rfl (visB rfl) rfl rfl (je_top je_int) (je_mod (je_ct b_int rfl h.f_int rfl (ja_cons (je_top (je_add (je_mul (je_ix (je_varT 0 rfl (visB rfl) rfl rfl) (je_top je_int) (fun _ _ => rfl)) (je_top je_int)) (je_top je_int))) (ja_nil (pu := true)) (fun _ => rfl)) (by decide) rfl (fun _ => rfl) (fun _ => rfl)) (je_top je_int)) (fun _ _ => rfl) (fun _ _ => rfl) (fun _ => rfl) (fun _ => rfl))
  (jss_one (js_ret (je_mod (je_ct b_int rfl h.f_int rfl (ja_cons (je_top (je_div (je_ix (je_varT 0 rfl (visB rfl) rfl rfl) (je_top je_int) (fun _ _ => rfl)) (je_top je_int))) (ja_nil (pu := true)) (fun _ => rfl)) (by decide) rfl (fun _ => rfl) (fun _ => rfl)) (je_top (je_var 1 rfl (visB rfl) rfl rfl))))))))
/-! ### is_name -/
abbrev N_is_name : List Str := ["word", "sign"]
abbrev P_is_name : List Str := ["word"]
theorem s_is_name : FnScope N_is_name P_is_name (defScope (top 12)) := ⟨rfl, rfl, rfl, by decide +kernel, rfl, by decide +kernel, by decide +kernel⟩
def d_is_name : PD.Env → RS :=
  (sSeq (sIf (dOrT (dNotT (dTru (dCB isiD (dCons (dVar 0) (dCons (dC (.ty "str")) dNil))))) (dNotT (dTest (dChain leD leD (dC (.int 1)) (dCB lenD (dCons (dVar 0) dNil)) (dC (.int 12)))))) (sRet (dC (.bl false))) sNil)
  (sSeq (sFor (dSeq (dVar 0)) (gN 1) (sIf (dTest (dOp ninD (dVar 1) (dC (.str "abcdefghijklmnopqrstuvwxyz")))) (sRet (dC (.bl false))) sNil))
  (sRet (dC (.bl true)))))
def r_is_name : List D → Rr := runF .fro 2 d_is_name
theorem j_is_name (h : Fac mg) : JSs ⟨P, w, K, mg, base, N_is_name, defScope (top 12), fun _ => true, 0⟩ .fro (defBody (top 12)) d_is_name :=
  (jss_cons (js_if (jt_of (jw_or (jt_not (jt_tru (je_cb b_isi rfl h.f_isinstance rfl (ja_cons (je_top (je_var 0 rfl (visB rfl) rfl rfl)) (ja_cons (je_top (je_gty rfl h.f_str rfl (by decide) rfl)) (ja_nil (pu := true)) (fun _ => rfl)) (fun _ => rfl)) (by decide) rfl (fun _ => rfl) (fun _ => rfl)) (fun _ _ => rfl))) (jw_or1 (jt_not (jt_chain c_le c_le je_int (je_cb b_len rfl h.f_len rfl (ja_cons (je_top (je_var 0 rfl (visB rfl) rfl rfl)) (ja_nil (pu := true)) (fun _ => rfl)) (by decide) rfl (fun _ => rfl) (fun _ => rfl)) (je_gint rfl h.c_LONGEST rfl) rfl))))) (jss_one (js_ret je_bl)) jss_nil)
  (jss_cons (js_for (ji_seq (je_var 0 rfl (visB rfl) rfl rfl)) (jg_name 1 rfl (locB rfl) (fnB rfl)) (jss_one (js_if (jt_cmp c_nin (je_var 1 rfl (visB rfl) rfl rfl) (je_top (je_gstr rfl h.c_LETTERS rfl)) rfl) (jss_one (js_ret je_bl)) jss_nil)) (fun _ _ => rfl))
  (jss_one (js_ret je_bl))))
/-! ### checked_name -/
abbrev N_checked_name : List Str := ["word"]
abbrev P_checked_name : List Str := ["word"]
theorem s_checked_name : FnScope N_checked_name P_checked_name (defScope (top 13)) := ⟨rfl, rfl, rfl, by decide +kernel, rfl, by decide +kernel, by decide +kernel⟩
def d_checked_name : PD.Env → RS :=
  (sSeq (sIf (dNotT (dTru (dCall r_is_name [] (dCons (dVar 0) dNil)))) sBad sNil)
  (sRet (dVar 0)))
def r_checked_name : List D → Rr := runF .fro 1 d_checked_name
theorem j_checked_name (h : Fac mg) (c_is_name_1 : FnD P w K mg base 1 "is_name" 1 [] .fro r_is_name) : JSs ⟨P, w, K, mg, base, N_checked_name, defScope (top 13), fun _ => true, 1⟩ .fro (defBody (top 13)) d_checked_name :=
  (jss_cons (js_if (jt_not (jt_tru (je_call c_is_name_1 (lek rfl) rfl rfl (ja_cons (je_var 0 rfl (visB rfl) rfl rfl) (ja_nil (pu := true)) (fun _ => rfl)) rfl (ln_cons ln_nil) (fun _ => rfl) (fun _ => rfl)) (fun _ _ => rfl))) (jss_one js_dead) jss_nil)
  (jss_one (js_ret (je_var 0 rfl (visB rfl) rfl rfl))))
/-! ### is_number -/
abbrev N_is_number : List Str := ["value", "least", "most"]
abbrev P_is_number : List Str := ["value", "least", "most"]
theorem s_is_number : FnScope N_is_number P_is_number (defScope (top 14)) := ⟨rfl, rfl, rfl, by decide +kernel, rfl, by decide +kernel, by decide +kernel⟩
def d_is_number : PD.Env → RS :=
  (sSeq (sIf (dOrT (dTru (dCB isiD (dCons (dVar 0) (dCons (dC (.ty "bool")) dNil)))) (dNotT (dTru (dCB isiD (dCons (dVar 0) (dCons (dC (.ty "int")) dNil)))))) (sRet (dC (.bl false))) sNil)
  (sRet (dChain leD leD (dVar 1) (dVar 0) (dVar 2))))
def r_is_number : List D → Rr := runF .fro 3 d_is_number
theorem j_is_number (h : Fac mg) : JSs ⟨P, w, K, mg, base, N_is_number, defScope (top 14), fun _ => true, 0⟩ .fro (defBody (top 14)) d_is_number :=
  (jss_cons (js_if (jt_of (jw_or (jt_tru (je_cb b_isi rfl h.f_isinstance rfl (ja_cons (je_top (je_var 0 rfl (visB rfl) rfl rfl)) (ja_cons (je_top (je_gty rfl h.f_bool rfl (by decide) rfl)) (ja_nil (pu := true)) (fun _ => rfl)) (fun _ => rfl)) (by decide) rfl (fun _ => rfl) (fun _ => rfl)) (fun _ _ => rfl)) (jw_or1 (jt_not (jt_tru (je_cb b_isi rfl h.f_isinstance rfl (ja_cons (je_top (je_var 0 rfl (visB rfl) rfl rfl)) (ja_cons (je_top (je_gty rfl h.f_int rfl (by decide) rfl)) (ja_nil (pu := true)) (fun _ => rfl)) (fun _ => rfl)) (by decide) rfl (fun _ => rfl) (fun _ => rfl)) (fun _ _ => rfl)))))) (jss_one (js_ret je_bl)) jss_nil)
  (jss_one (js_ret (je_chain c_le c_le (je_var 1 rfl (visB rfl) rfl rfl) (je_var 0 rfl (visB rfl) rfl rfl) (je_var 2 rfl (visB rfl) rfl rfl) rfl))))
/-! ### checked_number -/
abbrev N_checked_number : List Str := ["value", "least", "most"]
abbrev P_checked_number : List Str := ["value", "least", "most"]
theorem s_checked_number : FnScope N_checked_number P_checked_number (defScope (top 15)) := ⟨rfl, rfl, rfl, by decide +kernel, rfl, by decide +kernel, by decide +kernel⟩
def d_checked_number : PD.Env → RS :=
  (sSeq (sIf (dNotT (dTru (dCall r_is_number [] (dCons (dVar 0) (dCons (dVar 1) (dCons (dVar 2) dNil)))))) sBad sNil)
  (sRet (dVar 0)))
def r_checked_number : List D → Rr := runF .fro 3 d_checked_number
theorem j_checked_number (h : Fac mg) (c_is_number_3 : FnD P w K mg base 1 "is_number" 3 [] .fro r_is_number) : JSs ⟨P, w, K, mg, base, N_checked_number, defScope (top 15), fun _ => true, 1⟩ .fro (defBody (top 15)) d_checked_number :=
  (jss_cons (js_if (jt_not (jt_tru (je_call c_is_number_3 (lek rfl) rfl rfl (ja_cons (je_var 0 rfl (visB rfl) rfl rfl) (ja_cons (je_var 1 rfl (visB rfl) rfl rfl) (ja_cons (je_var 2 rfl (visB rfl) rfl rfl) (ja_nil (pu := true)) (fun _ => rfl)) (fun _ => rfl)) (fun _ => rfl)) rfl (ln_cons (ln_cons (ln_cons ln_nil))) (fun _ => rfl) (fun _ => rfl)) (fun _ _ => rfl))) (jss_one js_dead) jss_nil)
  (jss_one (js_ret (je_var 0 rfl (visB rfl) rfl rfl))))
/-! ### checked_pledges -/
abbrev N_checked_pledges : List Str := ["pledges", "found", "name", "number", "row"]
abbrev P_checked_pledges : List Str := ["pledges"]
theorem s_checked_pledges : FnScope N_checked_pledges P_checked_pledges (defScope (top 18)) := ⟨rfl, rfl, rfl, by decide +kernel, rfl, by decide +kernel, by decide +kernel⟩
def d_checked_pledges : PD.Env → RS :=
  (sSeq (sIf (dTest (dOp gtD (dCB lenD (dCons (dVar 0) dNil)) (dC (.int 40)))) sBad sNil)
  (sSeq (sSetO 1 (dLst dNil))
  (sSeq (sFor (dSeq (dVar 0)) (gTupD 2 (gsCons (gN 2) (gsCons (gN 3) gsNil))) (sSeq (sDrop (dCall r_checked_name [] (dCons (dVar 2) dNil)))
  (sSeq (sIf (unB (dTru (dLc [4] (dSeq (dVar 1)) (gN 4) (dTest (dOp eqD (dOp ixD (dVar 4) (dC (.int 0))) (dVar 2))) (dVar 4)))) sBad sNil)
  (sApp 1 (dTup (dCons (dVar 2) (dCons (dCall r_checked_number [] (dCons (dVar 3) (dCons (dC (.int 0)) (dCons (dC (.int 40)) dNil)))) dNil)))))))
  (sRet (dCB sortedD (dCons (dTop 1) dNil))))))
def r_checked_pledges : List D → Rr := runF .fro 5 d_checked_pledges
theorem j_checked_pledges (h : Fac mg) (c_checked_name_1 : FnD P w K mg base 2 "checked_name" 1 [] .fro r_checked_name) (c_checked_number_3 : FnD P w K mg base 2 "checked_number" 3 [] .fro r_checked_number) : JSs ⟨P, w, K, mg, base, N_checked_pledges, defScope (top 18), fun _ => true, 2⟩ .fro (defBody (top 18)) d_checked_pledges :=
  (jss_cons (js_if (jt_cmp c_gt (je_cb b_len rfl h.f_len rfl (ja_cons (je_top (je_var 0 rfl (visB rfl) rfl rfl)) (ja_nil (pu := true)) (fun _ => rfl)) (by decide) rfl (fun _ => rfl) (fun _ => rfl)) (je_top (je_gint rfl h.c_MOST rfl)) rfl) (jss_one js_dead) jss_nil)
  (jss_cons (js_setO 1 (je_lst (ja_nil (pu := true))) rfl (locB rfl) (fun _ _ => rfl) (.inl rfl))
  (jss_cons (js_for (ji_seq (je_var 0 rfl (visB rfl) rfl rfl)) (jg_tup (jgs_cons (jg_name 2 rfl (locB rfl) (fnB rfl)) (jgs_cons (jg_name 3 rfl (locB rfl) (fnB rfl)) jgs_nil (fun _ => rfl)) (fun _ => rfl)) (fun _ => rfl) (fun _ => rfl)) (jss_cons (js_expr (je_call c_checked_name_1 (lek rfl) rfl rfl (ja_cons (je_var 2 rfl (visB rfl) rfl rfl) (ja_nil (pu := true)) (fun _ => rfl)) rfl (ln_cons ln_nil) (fun _ => rfl) (fun _ => rfl)) (fun _ _ => rfl))
  (jss_cons (js_if (jt_un (jt_tru (je_own_fro (je_lc (ji_seq (je_var 1 rfl (visB rfl) rfl rfl)) (jg_name 4 rfl (locB rfl) (fnB rfl)) (jts_one (jt_cmp c_eq (je_ix (je_var 4 rfl (visB rfl) rfl rfl) (je_top je_int) (fun _ _ => rfl)) (je_top (je_var 2 rfl (visB rfl) rfl rfl)) rfl)) (je_var 4 rfl (visB rfl) rfl rfl) (own := [("row", 4)]) rfl (by decide) (fun _ _ => rfl))) (fun _ _ => rfl))) (jss_one js_dead) jss_nil)
  (jss_one (js_append 1 rfl (visB rfl) rfl rfl (je_tup (ja_cons (je_var 2 rfl (visB rfl) rfl rfl) (ja_cons (je_call c_checked_number_3 (lek rfl) rfl rfl (ja_cons (je_var 3 rfl (visB rfl) rfl rfl) (ja_cons je_int (ja_cons (je_gint rfl h.c_MOST rfl) (ja_nil (pu := true)) (fun _ => rfl)) (fun _ => rfl)) (fun _ => rfl)) rfl (ln_cons (ln_cons (ln_cons ln_nil))) (fun _ => rfl) (fun _ => rfl)) (ja_nil (pu := true)) (fun _ => rfl)) (fun _ => rfl))) (fun _ => rfl) (fun _ => rfl) rfl (fun _ => rfl))))) (fun _ _ => rfl))
  (jss_one (js_ret (je_own_fro (je_cb b_sorted rfl h.f_sorted rfl (ja_cons (je_varT 1 rfl (visB rfl) rfl rfl) (ja_nil (pu := true)) (fun _ => rfl)) (by decide) rfl (fun _ => rfl) (fun _ => rfl))))))))
/-! ### changed -/
abbrev N_changed : List Str := ["pledges", "name", "number", "rows", "row", "one", "old"]
abbrev P_changed : List Str := ["pledges", "name", "number"]
theorem s_changed : FnScope N_changed P_changed (defScope (top 28)) := ⟨rfl, rfl, rfl, by decide +kernel, rfl, by decide +kernel, by decide +kernel⟩
def d_changed : PD.Env → RS :=
  (sSeq (sSet 3 (dCall r_checked_pledges [] (dCons (dVar 0) dNil)))
  (sSeq (sIf (dTest (dOp ninD (dVar 1) (dLc [4] (dSeq (dVar 3)) (gN 4) (fun ρ => .ok true ρ) (dOp ixD (dVar 4) (dC (.int 0)))))) sBad sNil)
  (sSeq (sDrop (dCall r_checked_number [] (dCons (dVar 2) (dCons (dC (.int 0)) (dCons (dC (.int 40)) dNil)))))
  (sRet (dLc [5, 6] (dSeq (dVar 3)) (gTupD 2 (gsCons (gN 5) (gsCons (gN 6) gsNil))) (fun ρ => .ok true ρ) (dTup (dCons (dVar 5) (dCons (dIf (dTest (dOp eqD (dVar 5) (dVar 1))) (dVar 2) (dVar 6)) dNil))))))))
def r_changed : List D → Rr := runF .fro 7 d_changed
theorem j_changed (h : Fac mg) (c_checked_number_3 : FnD P w K mg base 2 "checked_number" 3 [] .fro r_checked_number) (c_checked_pledges_1 : FnD P w K mg base 3 "checked_pledges" 1 [] .fro r_checked_pledges) : JSs ⟨P, w, K, mg, base, N_changed, defScope (top 28), fun _ => true, 3⟩ .fro (defBody (top 28)) d_changed :=
  (jss_cons (js_set 3 (je_call c_checked_pledges_1 (lek rfl) rfl rfl (ja_cons (je_var 0 rfl (visB rfl) rfl rfl) (ja_nil (pu := true)) (fun _ => rfl)) rfl (ln_cons ln_nil) (fun _ => rfl) (fun _ => rfl)) rfl (locB rfl) (fun _ _ => rfl) (.inl rfl))
  (jss_cons (js_if (jt_cmp c_nin (je_var 1 rfl (visB rfl) rfl rfl) (je_top (je_lc (ji_seq (je_var 3 rfl (visB rfl) rfl rfl)) (jg_name 4 rfl (locB rfl) (fnB rfl)) jts_nil (je_ix (je_var 4 rfl (visB rfl) rfl rfl) (je_top je_int) (fun _ _ => rfl)) (own := [("row", 4)]) rfl (by decide) (fun _ _ => rfl))) rfl) (jss_one js_dead) jss_nil)
  (jss_cons (js_expr (je_call c_checked_number_3 (lek rfl) rfl rfl (ja_cons (je_var 2 rfl (visB rfl) rfl rfl) (ja_cons je_int (ja_cons (je_gint rfl h.c_MOST rfl) (ja_nil (pu := true)) (fun _ => rfl)) (fun _ => rfl)) (fun _ => rfl)) rfl (ln_cons (ln_cons (ln_cons ln_nil))) (fun _ => rfl) (fun _ => rfl)) (fun _ _ => rfl))
  (jss_one (js_ret (je_own_fro (je_lc (ji_seq (je_var 3 rfl (visB rfl) rfl rfl)) (jg_tup (jgs_cons (jg_name 5 rfl (locB rfl) (fnB rfl)) (jgs_cons (jg_name 6 rfl (locB rfl) (fnB rfl)) jgs_nil (fun _ => rfl)) (fun _ => rfl)) (fun _ => rfl) (fun _ => rfl)) jts_nil (je_tup (ja_cons (je_var 5 rfl (visB rfl) rfl rfl) (ja_cons (je_if (jt_cmp c_eq (je_var 5 rfl (visB rfl) rfl rfl) (je_top (je_var 1 rfl (visB rfl) rfl rfl)) rfl) (je_var 2 rfl (visB rfl) rfl rfl) (je_var 6 rfl (visB rfl) rfl rfl)) (ja_nil (pu := true)) (fun _ => rfl)) (fun _ => rfl))) (own := [("one", 5), ("old", 6)]) rfl (by decide) (fun _ _ => rfl))))))))
/-! ### checked_joined -/
abbrev N_checked_joined : List Str := ["pledges", "names", "row", "known", "at"]
abbrev P_checked_joined : List Str := ["pledges", "names"]
theorem s_checked_joined : FnScope N_checked_joined P_checked_joined (defScope (top 19)) := ⟨rfl, rfl, rfl, by decide +kernel, rfl, by decide +kernel, by decide +kernel⟩
def d_checked_joined : PD.Env → RS :=
  (sSeq (sSet 3 (dLc [2] (dSeq (dCall r_checked_pledges [] (dCons (dVar 0) dNil))) (gN 2) (fun ρ => .ok true ρ) (dOp ixD (dVar 2) (dC (.int 0)))))
  (sSeq (sFor (dRng1 (dCons (dCB lenD (dCons (dVar 1) dNil)) dNil)) (gN 4) (sSeq (sIf (dTest (dOp ninD (dOp ixD (dVar 1) (dVar 4)) (dVar 3))) sBad sNil)
  (sIf (dTest (dOp inD (dOp ixD (dVar 1) (dVar 4)) (dSl slD (dVar 1) dNoPart (dPart (dVar 4))))) sBad sNil)))
  (sRet (dCB sortedD (dCons (dVar 1) dNil)))))
def r_checked_joined : List D → Rr := runF .fro 5 d_checked_joined
theorem j_checked_joined (h : Fac mg) (c_checked_pledges_1 : FnD P w K mg base 3 "checked_pledges" 1 [] .fro r_checked_pledges) : JSs ⟨P, w, K, mg, base, N_checked_joined, defScope (top 19), fun _ => true, 3⟩ .fro (defBody (top 19)) d_checked_joined :=
  (jss_cons (js_setL 3 (ji_seq (je_call c_checked_pledges_1 (lek rfl) rfl rfl (ja_cons (je_var 0 rfl (visB rfl) rfl rfl) (ja_nil (pu := true)) (fun _ => rfl)) rfl (ln_cons ln_nil) (fun _ => rfl) (fun _ => rfl))) (jg_name 2 rfl (locB rfl) (fnB rfl)) jts_nil (je_ix (je_var 2 rfl (visB rfl) rfl rfl) (je_top je_int) (fun _ _ => rfl)) (own := [("row", 2)]) rfl (by decide) (fun _ _ => rfl) rfl rfl rfl rfl rfl)
  (jss_cons (js_for (ji_range1 rfl h.f_range (ja_cons (je_top (je_cb b_len rfl h.f_len rfl (ja_cons (je_top (je_var 1 rfl (visB rfl) rfl rfl)) (ja_nil (pu := true)) (fun _ => rfl)) (by decide) rfl (fun _ => rfl) (fun _ => rfl))) (ja_nil (pu := true)) (fun _ => rfl)) (fun _ => rfl)) (jg_name 4 rfl (locB rfl) (fnB rfl)) (jss_cons (js_if (jt_cmp c_nin (je_ix (je_var 1 rfl (visB rfl) rfl rfl) (je_top (je_var 4 rfl (visB rfl) rfl rfl)) (fun _ _ => rfl)) (je_top (je_var 3 rfl (visB rfl) rfl rfl)) rfl) (jss_one js_dead) jss_nil)
  (jss_one (js_if (jt_cmp c_in (je_ix (je_var 1 rfl (visB rfl) rfl rfl) (je_top (je_var 4 rfl (visB rfl) rfl rfl)) (fun _ _ => rfl)) (je_top (je_sl (je_var 1 rfl (visB rfl) rfl rfl) jo_none (jo_some (je_var 4 rfl (visB rfl) rfl rfl)))) rfl) (jss_one js_dead) jss_nil))) (fun _ _ => rfl))
  (jss_one (js_ret (je_own_fro (je_cb b_sorted rfl h.f_sorted rfl (ja_cons (je_top (je_var 1 rfl (visB rfl) rfl rfl)) (ja_nil (pu := true)) (fun _ => rfl)) (by decide) rfl (fun _ => rfl) (fun _ => rfl)))))))
/-! ### would -/
abbrev N_would : List Str := ["pledges", "names", "told", "name", "number"]
abbrev P_would : List Str := ["pledges", "names"]
theorem s_would : FnScope N_would P_would (defScope (top 20)) := ⟨rfl, rfl, rfl, by decide +kernel, rfl, by decide +kernel, by decide +kernel⟩
def d_would : PD.Env → RS :=
  (sSeq (sSet 2 (dCall r_checked_joined [] (dCons (dVar 0) (dCons (dVar 1) dNil))))
  (sRet (dLc [3, 4] (dSeq (dCall r_checked_pledges [] (dCons (dVar 0) dNil))) (gTupD 2 (gsCons (gN 3) (gsCons (gN 4) gsNil))) (dTest (dOp geD (dOp subD (dCB lenD (dCons (dVar 2) dNil)) (dIf (dTest (dOp inD (dVar 3) (dVar 2))) (dC (.int 1)) (dC (.int 0)))) (dVar 4))) (dVar 3))))
def r_would : List D → Rr := runF .fro 5 d_would
theorem j_would (h : Fac mg) (c_checked_joined_2 : FnD P w K mg base 4 "checked_joined" 2 [] .fro r_checked_joined) (c_checked_pledges_1 : FnD P w K mg base 3 "checked_pledges" 1 [] .fro r_checked_pledges) : JSs ⟨P, w, K, mg, base, N_would, defScope (top 20), fun _ => true, 4⟩ .fro (defBody (top 20)) d_would :=
  (jss_cons (js_set 2 (je_call c_checked_joined_2 (lek rfl) rfl rfl (ja_cons (je_var 0 rfl (visB rfl) rfl rfl) (ja_cons (je_var 1 rfl (visB rfl) rfl rfl) (ja_nil (pu := true)) (fun _ => rfl)) (fun _ => rfl)) rfl (ln_cons (ln_cons ln_nil)) (fun _ => rfl) (fun _ => rfl)) rfl (locB rfl) (fun _ _ => rfl) (.inl rfl))
  (jss_one (js_ret (je_own_fro (je_lc (ji_seq (je_call c_checked_pledges_1 (lek rfl) rfl rfl (ja_cons (je_var 0 rfl (visB rfl) rfl rfl) (ja_nil (pu := true)) (fun _ => rfl)) rfl (ln_cons ln_nil) (fun _ => rfl) (fun _ => rfl))) (jg_tup (jgs_cons (jg_name 3 rfl (locB rfl) (fnB rfl)) (jgs_cons (jg_name 4 rfl (locB rfl) (fnB rfl)) jgs_nil (fun _ => rfl)) (fun _ => rfl)) (fun _ => rfl) (fun _ => rfl)) (jts_one (jt_cmp c_ge (je_sub (je_cb b_len rfl h.f_len rfl (ja_cons (je_top (je_var 2 rfl (visB rfl) rfl rfl)) (ja_nil (pu := true)) (fun _ => rfl)) (by decide) rfl (fun _ => rfl) (fun _ => rfl)) (je_top (je_if (jt_cmp c_in (je_var 3 rfl (visB rfl) rfl rfl) (je_top (je_var 2 rfl (visB rfl) rfl rfl)) rfl) je_int je_int))) (je_top (je_var 4 rfl (visB rfl) rfl rfl)) rfl)) (je_var 3 rfl (visB rfl) rfl rfl) (own := [("name", 3), ("number", 4)]) rfl (by decide) (fun _ _ => rfl))))))
/-! ### fewest -/
abbrev N_fewest : List Str := ["pledges", "here", "told"]
abbrev P_fewest : List Str := ["pledges"]
theorem s_fewest : FnScope N_fewest P_fewest (defScope (top 22)) := ⟨rfl, rfl, rfl, by decide +kernel, rfl, by decide +kernel, by decide +kernel⟩
def d_fewest : PD.Env → RS :=
  (sSeq (sSet 1 (dLst dNil))
  (sSeq (sSet 2 (dCall r_would [] (dCons (dVar 0) (dCons (dVar 1) dNil))))
  (sSeq (sWhile 100 (dTest (dOp neD (dVar 2) (dVar 1))) (sSeq (sSet 1 (dVar 2))
  (sSet 2 (dCall r_would [] (dCons (dVar 0) (dCons (dVar 1) dNil))))))
  (sRet (dVar 1)))))
def r_fewest : List D → Rr := runF .fro 3 d_fewest
theorem j_fewest (h : Fac mg) (c_would_2 : FnD P w K mg base 5 "would" 2 [] .fro r_would) : JSs ⟨P, w, K, mg, base, N_fewest, defScope (top 22), fun _ => true, 5⟩ .fro (defBody (top 22)) d_fewest :=
  (jss_cons (js_set 1 (je_own_fro (je_lst (ja_nil (pu := true)))) rfl (locB rfl) (fun _ _ => rfl) (.inl rfl))
  (jss_cons (js_set 2 (je_call c_would_2 (lek rfl) rfl rfl (ja_cons (je_var 0 rfl (visB rfl) rfl rfl) (ja_cons (je_var 1 rfl (visB rfl) rfl rfl) (ja_nil (pu := true)) (fun _ => rfl)) (fun _ => rfl)) rfl (ln_cons (ln_cons ln_nil)) (fun _ => rfl) (fun _ => rfl)) rfl (locB rfl) (fun _ _ => rfl) (.inl rfl))
  (jss_cons (js_while 100 (jt_cmp c_ne (je_var 2 rfl (visB rfl) rfl rfl) (je_top (je_var 1 rfl (visB rfl) rfl rfl)) rfl) (jss_cons (js_set 1 (je_var 2 rfl (visB rfl) rfl rfl) rfl (locB rfl) (fun _ _ => rfl) (.inl rfl))
  (jss_one (js_set 2 (je_call c_would_2 (lek rfl) rfl rfl (ja_cons (je_var 0 rfl (visB rfl) rfl rfl) (ja_cons (je_var 1 rfl (visB rfl) rfl rfl) (ja_nil (pu := true)) (fun _ => rfl)) (fun _ => rfl)) rfl (ln_cons (ln_cons ln_nil)) (fun _ => rfl) (fun _ => rfl)) rfl (locB rfl) (fun _ _ => rfl) (.inl rfl)))))
  (jss_one (js_ret (je_var 1 rfl (visB rfl) rfl rfl))))))
/-! ### most -/
abbrev N_most : List Str := ["pledges", "row", "here", "told"]
abbrev P_most : List Str := ["pledges"]
theorem s_most : FnScope N_most P_most (defScope (top 23)) := ⟨rfl, rfl, rfl, by decide +kernel, rfl, by decide +kernel, by decide +kernel⟩
def d_most : PD.Env → RS :=
  (sSeq (sSet 2 (dLc [1] (dSeq (dCall r_checked_pledges [] (dCons (dVar 0) dNil))) (gN 1) (fun ρ => .ok true ρ) (dOp ixD (dVar 1) (dC (.int 0)))))
  (sSeq (sSet 3 (dCall r_would [] (dCons (dVar 0) (dCons (dVar 2) dNil))))
  (sSeq (sWhile 100 (dTest (dOp neD (dVar 3) (dVar 2))) (sSeq (sSet 2 (dVar 3))
  (sSet 3 (dCall r_would [] (dCons (dVar 0) (dCons (dVar 2) dNil))))))
  (sRet (dVar 2)))))
def r_most : List D → Rr := runF .fro 4 d_most
theorem j_most (h : Fac mg) (c_checked_pledges_1 : FnD P w K mg base 3 "checked_pledges" 1 [] .fro r_checked_pledges) (c_would_2 : FnD P w K mg base 5 "would" 2 [] .fro r_would) : JSs ⟨P, w, K, mg, base, N_most, defScope (top 23), fun _ => true, 5⟩ .fro (defBody (top 23)) d_most :=
  (jss_cons (js_setL 2 (ji_seq (je_call c_checked_pledges_1 (lek rfl) rfl rfl (ja_cons (je_var 0 rfl (visB rfl) rfl rfl) (ja_nil (pu := true)) (fun _ => rfl)) rfl (ln_cons ln_nil) (fun _ => rfl) (fun _ => rfl))) (jg_name 1 rfl (locB rfl) (fnB rfl)) jts_nil (je_ix (je_var 1 rfl (visB rfl) rfl rfl) (je_top je_int) (fun _ _ => rfl)) (own := [("row", 1)]) rfl (by decide) (fun _ _ => rfl) rfl rfl rfl rfl rfl)
  (jss_cons (js_set 3 (je_call c_would_2 (lek rfl) rfl rfl (ja_cons (je_var 0 rfl (visB rfl) rfl rfl) (ja_cons (je_var 2 rfl (visB rfl) rfl rfl) (ja_nil (pu := true)) (fun _ => rfl)) (fun _ => rfl)) rfl (ln_cons (ln_cons ln_nil)) (fun _ => rfl) (fun _ => rfl)) rfl (locB rfl) (fun _ _ => rfl) (.inl rfl))
  (jss_cons (js_while 100 (jt_cmp c_ne (je_var 3 rfl (visB rfl) rfl rfl) (je_top (je_var 2 rfl (visB rfl) rfl rfl)) rfl) (jss_cons (js_set 2 (je_var 3 rfl (visB rfl) rfl rfl) rfl (locB rfl) (fun _ _ => rfl) (.inl rfl))
  (jss_one (js_set 3 (je_call c_would_2 (lek rfl) rfl rfl (ja_cons (je_var 0 rfl (visB rfl) rfl rfl) (ja_cons (je_var 2 rfl (visB rfl) rfl rfl) (ja_nil (pu := true)) (fun _ => rfl)) (fun _ => rfl)) rfl (ln_cons (ln_cons ln_nil)) (fun _ => rfl) (fun _ => rfl)) rfl (locB rfl) (fun _ _ => rfl) (.inl rfl)))))
  (jss_one (js_ret (je_var 2 rfl (visB rfl) rfl rfl))))))
/-! ### _all_join -/
abbrev N__all_join : List Str := ["rows", "won", "name", "number", "numbers", "at"]
abbrev P__all_join : List Str := ["rows", "won"]
theorem s__all_join : FnScope N__all_join P__all_join (defScope (top 27)) := ⟨rfl, rfl, rfl, by decide +kernel, rfl, by decide +kernel, by decide +kernel⟩
def d__all_join : PD.Env → RS :=
  (sSeq (sSet 4 (dCB sortedD (dCons (dLc [2, 3] (dSeq (dVar 0)) (gTupD 2 (gsCons (gN 2) (gsCons (gN 3) gsNil))) (dTest (dOp ninD (dVar 2) (dVar 1))) (dVar 3)) dNil)))
  (sRet (dNot (dLc [5] (dRng1 (dCons (dCB lenD (dCons (dVar 4) dNil)) dNil)) (gN 5) (dTest (dOp ltD (dOp addD (dCB lenD (dCons (dVar 1) dNil)) (dVar 5)) (dOp ixD (dVar 4) (dVar 5)))) (dVar 5)))))
def r__all_join : List D → Rr := runF .fro 6 d__all_join
theorem j__all_join (h : Fac mg) : JSs ⟨P, w, K, mg, base, N__all_join, defScope (top 27), fun _ => true, 0⟩ .fro (defBody (top 27)) d__all_join :=
  (jss_cons (js_set 4 (je_own_fro (je_cb b_sorted rfl h.f_sorted rfl (ja_cons (je_top (je_lc (ji_seq (je_var 0 rfl (visB rfl) rfl rfl)) (jg_tup (jgs_cons (jg_name 2 rfl (locB rfl) (fnB rfl)) (jgs_cons (jg_name 3 rfl (locB rfl) (fnB rfl)) jgs_nil (fun _ => rfl)) (fun _ => rfl)) (fun _ => rfl) (fun _ => rfl)) (jts_one (jt_cmp c_nin (je_var 2 rfl (visB rfl) rfl rfl) (je_top (je_var 1 rfl (visB rfl) rfl rfl)) rfl)) (je_var 3 rfl (visB rfl) rfl rfl) (own := [("name", 2), ("number", 3)]) rfl (by decide) (fun _ _ => rfl))) (ja_nil (pu := true)) (fun _ => rfl)) (by decide) rfl (fun _ => rfl) (fun _ => rfl))) rfl (locB rfl) (fun _ _ => rfl) (.inl rfl))
  (jss_one (js_ret (je_not (je_own_fro (je_lc (ji_range1 rfl h.f_range (ja_cons (je_top (je_cb b_len rfl h.f_len rfl (ja_cons (je_top (je_var 4 rfl (visB rfl) rfl rfl)) (ja_nil (pu := true)) (fun _ => rfl)) (by decide) rfl (fun _ => rfl) (fun _ => rfl))) (ja_nil (pu := true)) (fun _ => rfl)) (fun _ => rfl)) (jg_name 5 rfl (locB rfl) (fnB rfl)) (jts_one (jt_cmp c_lt (je_add (je_cb b_len rfl h.f_len rfl (ja_cons (je_top (je_var 1 rfl (visB rfl) rfl rfl)) (ja_nil (pu := true)) (fun _ => rfl)) (by decide) rfl (fun _ => rfl) (fun _ => rfl)) (je_top (je_var 5 rfl (visB rfl) rfl rfl))) (je_top (je_ix (je_var 4 rfl (visB rfl) rfl rfl) (je_top (je_var 5 rfl (visB rfl) rfl rfl)) (fun _ _ => rfl))) rfl)) (je_var 5 rfl (visB rfl) rfl rfl) (own := [("at", 5)]) rfl (by decide) (fun _ _ => rfl)))))))
/-! ### starters -/
abbrev N_starters : List Str := ["pledges", "rows", "name", "number", "order", "many"]
abbrev P_starters : List Str := ["pledges"]
theorem s_starters : FnScope N_starters P_starters (defScope (top 26)) := ⟨rfl, rfl, rfl, by decide +kernel, rfl, by decide +kernel, by decide +kernel⟩
def d_starters : PD.Env → RS :=
  (sSeq (sSet 1 (dCall r_checked_pledges [] (dCons (dVar 0) dNil)))
  (sSeq (sSet 4 (dLc [3, 2] (dSeq (dCB sortedD (dCons (dLc [2, 3] (dSeq (dVar 1)) (gTupD 2 (gsCons (gN 2) (gsCons (gN 3) gsNil))) (fun ρ => .ok true ρ) (dTup (dCons (dUn negD (dVar 3)) (dCons (dVar 2) dNil)))) dNil))) (gTupD 2 (gsCons (gN 3) (gsCons (gN 2) gsNil))) (fun ρ => .ok true ρ) (dVar 2)))
  (sSeq (sSet 5 (dC (.int 0)))
  (sSeq (sWhile 100 (dNotT (dTru (dCall r__all_join [] (dCons (dVar 1) (dCons (dSl slD (dVar 4) dNoPart (dPart (dVar 5))) dNil))))) (sSet 5 (dOp addD (dVar 5) (dC (.int 1)))))
  (sRet (dCB sortedD (dCons (dSl slD (dVar 4) dNoPart (dPart (dVar 5))) dNil)))))))
def r_starters : List D → Rr := runF .fro 6 d_starters
theorem j_starters (h : Fac mg) (c__all_join_2 : FnD P w K mg base 1 "_all_join" 2 [] .fro r__all_join) (c_checked_pledges_1 : FnD P w K mg base 3 "checked_pledges" 1 [] .fro r_checked_pledges) : JSs ⟨P, w, K, mg, base, N_starters, defScope (top 26), fun _ => true, 3⟩ .fro (defBody (top 26)) d_starters :=
  (jss_cons (js_set 1 (je_call c_checked_pledges_1 (lek rfl) rfl rfl (ja_cons (je_var 0 rfl (visB rfl) rfl rfl) (ja_nil (pu := true)) (fun _ => rfl)) rfl (ln_cons ln_nil) (fun _ => rfl) (fun _ => rfl)) rfl (locB rfl) (fun _ _ => rfl) (.inl rfl))
  (jss_cons (js_setL 4 (ji_seq (je_own_fro (je_cb b_sorted rfl h.f_sorted rfl (ja_cons (je_top (je_lc (ji_seq (je_var 1 rfl (visB rfl) rfl rfl)) (jg_tup (jgs_cons (jg_name 2 rfl (locB rfl) (fnB rfl)) (jgs_cons (jg_name 3 rfl (locB rfl) (fnB rfl)) jgs_nil (fun _ => rfl)) (fun _ => rfl)) (fun _ => rfl) (fun _ => rfl)) jts_nil (je_tup (ja_cons (je_neg (je_var 3 rfl (visB rfl) rfl rfl)) (ja_cons (je_var 2 rfl (visB rfl) rfl rfl) (ja_nil (pu := true)) (fun _ => rfl)) (fun _ => rfl))) (own := [("name", 2), ("number", 3)]) rfl (by decide) (fun _ _ => rfl))) (ja_nil (pu := true)) (fun _ => rfl)) (by decide) rfl (fun _ => rfl) (fun _ => rfl)))) (jg_tup (jgs_cons (jg_name 3 rfl (locB rfl) (fnB rfl)) (jgs_cons (jg_name 2 rfl (locB rfl) (fnB rfl)) jgs_nil (fun _ => rfl)) (fun _ => rfl)) (fun _ => rfl) (fun _ => rfl)) jts_nil (je_var 2 rfl (visB rfl) rfl rfl) (own := [("number", 3), ("name", 2)]) rfl (by decide) (fun _ _ => rfl) rfl rfl rfl rfl rfl)
  (jss_cons (js_set 5 je_int rfl (locB rfl) (fun _ _ => rfl) (.inl rfl))
  (jss_cons (js_while 100 (jt_not (jt_tru (je_call c__all_join_2 (lek rfl) rfl rfl (ja_cons (je_var 1 rfl (visB rfl) rfl rfl) (ja_cons (je_sl (je_var 4 rfl (visB rfl) rfl rfl) jo_none (jo_some (je_var 5 rfl (visB rfl) rfl rfl))) (ja_nil (pu := true)) (fun _ => rfl)) (fun _ => rfl)) rfl (ln_cons (ln_cons ln_nil)) (fun _ => rfl) (fun _ => rfl)) (fun _ _ => rfl))) (jss_one (js_set 5 (je_add (je_var 5 rfl (visB rfl) rfl rfl) (je_top je_int)) rfl (locB rfl) (fun _ _ => rfl) (.inl rfl))))
  (jss_one (js_ret (je_own_fro (je_cb b_sorted rfl h.f_sorted rfl (ja_cons (je_top (je_sl (je_var 4 rfl (visB rfl) rfl rfl) jo_none (jo_some (je_var 5 rfl (visB rfl) rfl rfl)))) (ja_nil (pu := true)) (fun _ => rfl)) (by decide) rfl (fun _ => rfl) (fun _ => rfl)))))))))
/-! ### steps -/
abbrev N_steps : List Str := ["pledges", "names", "found", "told"]
abbrev P_steps : List Str := ["pledges", "names"]
theorem s_steps : FnScope N_steps P_steps (defScope (top 24)) := ⟨rfl, rfl, rfl, by decide +kernel, rfl, by decide +kernel, by decide +kernel⟩
def d_steps : PD.Env → RS :=
  (sSeq (sSetO 2 (dLst (dCons (dCall r_checked_joined [] (dCons (dVar 0) (dCons (dVar 1) dNil))) dNil)))
  (sSeq (sSet 3 (dCall r_would [] (dCons (dVar 0) (dCons (dOp ixD (dTop 2) (dC (.int 0))) dNil))))
  (sSeq (sWhile 100 (dTest (dOp neD (dVar 3) (dOp ixD (dTop 2) (dUn negD (dC (.int 1)))))) (sSeq (sIf (dOrT (dTest (dOp gtD (dCB lenD (dCons (dTop 2) dNil)) (dC (.int 80)))) (dTest (dOp inD (dVar 3) (dTop 2)))) sBad sNil)
  (sSeq (sApp 2 (dVar 3))
  (sSet 3 (dCall r_would [] (dCons (dVar 0) (dCons (dVar 3) dNil)))))))
  (sRet (dVar 2)))))
def r_steps : List D → Rr := runF .fro 4 d_steps
theorem j_steps (h : Fac mg) (c_checked_joined_2 : FnD P w K mg base 4 "checked_joined" 2 [] .fro r_checked_joined) (c_would_2 : FnD P w K mg base 5 "would" 2 [] .fro r_would) : JSs ⟨P, w, K, mg, base, N_steps, defScope (top 24), fun _ => true, 5⟩ .fro (defBody (top 24)) d_steps :=
  (jss_cons (js_setO 2 (je_lst (ja_cons (je_call c_checked_joined_2 (lek rfl) rfl rfl (ja_cons (je_var 0 rfl (visB rfl) rfl rfl) (ja_cons (je_var 1 rfl (visB rfl) rfl rfl) (ja_nil (pu := true)) (fun _ => rfl)) (fun _ => rfl)) rfl (ln_cons (ln_cons ln_nil)) (fun _ => rfl) (fun _ => rfl)) (ja_nil (pu := true)) (fun _ => rfl))) rfl (locB rfl) (fun _ _ => rfl) (.inl rfl))
  (jss_cons (js_set 3 (je_call c_would_2 (lek rfl) rfl rfl (ja_cons (je_var 0 rfl (visB rfl) rfl rfl) (ja_cons (je_ix (je_varT 2 rfl (visB rfl) rfl rfl) (je_top je_int) (fun _ _ => rfl)) (ja_nil (pu := true)) (fun _ => rfl)) (fun _ => rfl)) rfl (ln_cons (ln_cons ln_nil)) (fun _ => rfl) (fun _ => rfl)) rfl (locB rfl) (fun _ _ => rfl) (.inl rfl))
  (jss_cons (js_while 100 (jt_cmp c_ne (je_var 3 rfl (visB rfl) rfl rfl) (je_top (je_ix (je_varT 2 rfl (visB rfl) rfl rfl) (je_top (je_neg je_int)) (fun _ _ => rfl))) rfl) (jss_cons (js_if (jt_of (jw_or (jt_cmp c_gt (je_cb b_len rfl h.f_len rfl (ja_cons (je_varT 2 rfl (visB rfl) rfl rfl) (ja_nil (pu := true)) (fun _ => rfl)) (by decide) rfl (fun _ => rfl) (fun _ => rfl)) (je_top je_int) rfl) (jw_or1 (jt_cmp c_in (je_var 3 rfl (visB rfl) rfl rfl) (je_varT 2 rfl (visB rfl) rfl rfl) rfl)))) (jss_one js_dead) jss_nil)
  (jss_cons (js_append 2 rfl (visB rfl) rfl rfl (je_var 3 rfl (visB rfl) rfl rfl) (fun _ => rfl) (fun _ => rfl) rfl (fun _ => rfl))
  (jss_one (js_set 3 (je_call c_would_2 (lek rfl) rfl rfl (ja_cons (je_var 0 rfl (visB rfl) rfl rfl) (ja_cons (je_var 3 rfl (visB rfl) rfl rfl) (ja_nil (pu := true)) (fun _ => rfl)) (fun _ => rfl)) rfl (ln_cons (ln_cons ln_nil)) (fun _ => rfl) (fun _ => rfl)) rfl (locB rfl) (fun _ _ => rfl) (.inl rfl))))))
  (jss_one (js_ret (je_var 2 rfl (visB rfl) rfl rfl))))))
/-! ### _law_same -/
abbrev N__law_same : List Str := ["actual", "expected", "k"]
abbrev P__law_same : List Str := ["actual", "expected"]
theorem s__law_same : FnScope N__law_same P__law_same (defScope (top 31)) := ⟨rfl, rfl, rfl, by decide +kernel, rfl, by decide +kernel, by decide +kernel⟩
def d__law_same (rf : List D → Rr) : PD.Env → RS :=
  (sSeq (sIf (dTest (dOp isD (dVar 1) (dC .non))) (sRet (dOp isD (dVar 0) (dC .non))) sNil)
  (sSeq (sIf (dTru (dCB isiD (dCons (dVar 1) (dCons (dC (.ty "bool")) dNil)))) (sRet (dAnd (dCB isiD (dCons (dVar 0) (dCons (dC (.ty "bool")) dNil))) (dOp eqD (dVar 0) (dVar 1)))) sNil)
  (sSeq (sIf (dTru (dCB isiD (dCons (dVar 1) (dCons (dC (.ty "int")) dNil)))) (sRet (dAnd (dCB isiD (dCons (dVar 0) (dCons (dC (.ty "int")) dNil))) (dAnd (dNot (dCB isiD (dCons (dVar 0) (dCons (dC (.ty "bool")) dNil)))) (dOp eqD (dVar 0) (dVar 1))))) sNil)
  (sSeq (sIf (dTru (dCB isiD (dCons (dVar 1) (dCons (dC (.ty "str")) dNil)))) (sRet (dAnd (dCB isiD (dCons (dVar 0) (dCons (dC (.ty "str")) dNil))) (dOp eqD (dVar 0) (dVar 1)))) sNil)
  (sSeq (sIf (dAndT (dTru (dCB isiD (dCons (dVar 1) (dCons (dC (.ty "tuple")) dNil)))) (dNotT (dTru (dCB isiD (dCons (dVar 0) (dCons (dC (.ty "tuple")) dNil)))))) (sRet (dC (.bl false))) sNil)
  (sSeq (sIf (dAndT (dTru (dCB isiD (dCons (dVar 1) (dCons (dC (.ty "list")) dNil)))) (dNotT (dTru (dCB isiD (dCons (dVar 0) (dCons (dC (.ty "list")) dNil)))))) (sRet (dC (.bl false))) sNil)
  (sSeq (sIf (dTest (dOp neD (dCB lenD (dCons (dVar 0) dNil)) (dCB lenD (dCons (dVar 1) dNil)))) (sRet (dC (.bl false))) sNil)
  (sSeq (sFor (dRng1 (dCons (dCB lenD (dCons (dVar 1) dNil)) dNil)) (gN 2) (sIf (dNotT (dTru (dCall rf [] (dCons (dOp ixD (dVar 0) (dVar 2)) (dCons (dOp ixD (dVar 1) (dVar 2)) dNil))))) (sRet (dC (.bl false))) sNil))
  (sRet (dC (.bl true)))))))))))
def rr__law_same : Nat → List D → Rr
  | 0 => fun _ => .bad
  | k + 1 => runF .fro 3 (d__law_same (rr__law_same k))
abbrev r__law_same : List D → Rr := rr__law_same 3
theorem j__law_same {kk : Nat} {rf : List D → Rr} (h : Fac mg) (c__law_same_2 : FnD P w K mg base kk "_law_same" 2 [] .fro rf) (hkk : 0 ≤ kk) : JSs ⟨P, w, K, mg, base, N__law_same, defScope (top 31), fun _ => true, kk⟩ .fro (defBody (top 31)) (d__law_same rf) :=
  (jss_cons (js_if (jt_cmp c_is (je_var 1 rfl (visB rfl) rfl rfl) (je_top je_non) rfl) (jss_one (js_ret (je_cmp c_is (je_var 0 rfl (visB rfl) rfl rfl) (je_top je_non) rfl))) jss_nil)
  (jss_cons (js_if (jt_tru (je_cb b_isi rfl h.f_isinstance rfl (ja_cons (je_top (je_var 1 rfl (visB rfl) rfl rfl)) (ja_cons (je_top (je_gty rfl h.f_bool rfl (by decide) rfl)) (ja_nil (pu := true)) (fun _ => rfl)) (fun _ => rfl)) (by decide) rfl (fun _ => rfl) (fun _ => rfl)) (fun _ _ => rfl)) (jss_one (js_ret (je_and (je_cb b_isi rfl h.f_isinstance rfl (ja_cons (je_top (je_var 0 rfl (visB rfl) rfl rfl)) (ja_cons (je_top (je_gty rfl h.f_bool rfl (by decide) rfl)) (ja_nil (pu := true)) (fun _ => rfl)) (fun _ => rfl)) (by decide) rfl (fun _ => rfl) (fun _ => rfl)) (je_one (je_cmp c_eq (je_var 0 rfl (visB rfl) rfl rfl) (je_top (je_var 1 rfl (visB rfl) rfl rfl)) rfl))))) jss_nil)
  (jss_cons (js_if (jt_tru (je_cb b_isi rfl h.f_isinstance rfl (ja_cons (je_top (je_var 1 rfl (visB rfl) rfl rfl)) (ja_cons (je_top (je_gty rfl h.f_int rfl (by decide) rfl)) (ja_nil (pu := true)) (fun _ => rfl)) (fun _ => rfl)) (by decide) rfl (fun _ => rfl) (fun _ => rfl)) (fun _ _ => rfl)) (jss_one (js_ret (je_and (je_cb b_isi rfl h.f_isinstance rfl (ja_cons (je_top (je_var 0 rfl (visB rfl) rfl rfl)) (ja_cons (je_top (je_gty rfl h.f_int rfl (by decide) rfl)) (ja_nil (pu := true)) (fun _ => rfl)) (fun _ => rfl)) (by decide) rfl (fun _ => rfl) (fun _ => rfl)) (je_and (je_not (je_cb b_isi rfl h.f_isinstance rfl (ja_cons (je_top (je_var 0 rfl (visB rfl) rfl rfl)) (ja_cons (je_top (je_gty rfl h.f_bool rfl (by decide) rfl)) (ja_nil (pu := true)) (fun _ => rfl)) (fun _ => rfl)) (by decide) rfl (fun _ => rfl) (fun _ => rfl))) (je_one (je_cmp c_eq (je_var 0 rfl (visB rfl) rfl rfl) (je_top (je_var 1 rfl (visB rfl) rfl rfl)) rfl)))))) jss_nil)
  (jss_cons (js_if (jt_tru (je_cb b_isi rfl h.f_isinstance rfl (ja_cons (je_top (je_var 1 rfl (visB rfl) rfl rfl)) (ja_cons (je_top (je_gty rfl h.f_str rfl (by decide) rfl)) (ja_nil (pu := true)) (fun _ => rfl)) (fun _ => rfl)) (by decide) rfl (fun _ => rfl) (fun _ => rfl)) (fun _ _ => rfl)) (jss_one (js_ret (je_and (je_cb b_isi rfl h.f_isinstance rfl (ja_cons (je_top (je_var 0 rfl (visB rfl) rfl rfl)) (ja_cons (je_top (je_gty rfl h.f_str rfl (by decide) rfl)) (ja_nil (pu := true)) (fun _ => rfl)) (fun _ => rfl)) (by decide) rfl (fun _ => rfl) (fun _ => rfl)) (je_one (je_cmp c_eq (je_var 0 rfl (visB rfl) rfl rfl) (je_top (je_var 1 rfl (visB rfl) rfl rfl)) rfl))))) jss_nil)
  (jss_cons (js_if (jt_of (jw_and (jt_tru (je_cb b_isi rfl h.f_isinstance rfl (ja_cons (je_top (je_var 1 rfl (visB rfl) rfl rfl)) (ja_cons (je_top (je_gty rfl h.f_tuple rfl (by decide) rfl)) (ja_nil (pu := true)) (fun _ => rfl)) (fun _ => rfl)) (by decide) rfl (fun _ => rfl) (fun _ => rfl)) (fun _ _ => rfl)) (jw_and1 (jt_not (jt_tru (je_cb b_isi rfl h.f_isinstance rfl (ja_cons (je_top (je_var 0 rfl (visB rfl) rfl rfl)) (ja_cons (je_top (je_gty rfl h.f_tuple rfl (by decide) rfl)) (ja_nil (pu := true)) (fun _ => rfl)) (fun _ => rfl)) (by decide) rfl (fun _ => rfl) (fun _ => rfl)) (fun _ _ => rfl)))))) (jss_one (js_ret je_bl)) jss_nil)
  (jss_cons (js_if (jt_of (jw_and (jt_tru (je_cb b_isi rfl h.f_isinstance rfl (ja_cons (je_top (je_var 1 rfl (visB rfl) rfl rfl)) (ja_cons (je_top (je_gty rfl h.f_list rfl (by decide) rfl)) (ja_nil (pu := true)) (fun _ => rfl)) (fun _ => rfl)) (by decide) rfl (fun _ => rfl) (fun _ => rfl)) (fun _ _ => rfl)) (jw_and1 (jt_not (jt_tru (je_cb b_isi rfl h.f_isinstance rfl (ja_cons (je_top (je_var 0 rfl (visB rfl) rfl rfl)) (ja_cons (je_top (je_gty rfl h.f_list rfl (by decide) rfl)) (ja_nil (pu := true)) (fun _ => rfl)) (fun _ => rfl)) (by decide) rfl (fun _ => rfl) (fun _ => rfl)) (fun _ _ => rfl)))))) (jss_one (js_ret je_bl)) jss_nil)
  (jss_cons (js_if (jt_cmp c_ne (je_cb b_len rfl h.f_len rfl (ja_cons (je_top (je_var 0 rfl (visB rfl) rfl rfl)) (ja_nil (pu := true)) (fun _ => rfl)) (by decide) rfl (fun _ => rfl) (fun _ => rfl)) (je_top (je_cb b_len rfl h.f_len rfl (ja_cons (je_top (je_var 1 rfl (visB rfl) rfl rfl)) (ja_nil (pu := true)) (fun _ => rfl)) (by decide) rfl (fun _ => rfl) (fun _ => rfl))) rfl) (jss_one (js_ret je_bl)) jss_nil)
  (jss_cons (js_for (ji_range1 rfl h.f_range (ja_cons (je_top (je_cb b_len rfl h.f_len rfl (ja_cons (je_top (je_var 1 rfl (visB rfl) rfl rfl)) (ja_nil (pu := true)) (fun _ => rfl)) (by decide) rfl (fun _ => rfl) (fun _ => rfl))) (ja_nil (pu := true)) (fun _ => rfl)) (fun _ => rfl)) (jg_name 2 rfl (locB rfl) (fnB rfl)) (jss_one (js_if (jt_not (jt_tru (je_call c__law_same_2 (Nat.le_refl _) rfl rfl (ja_cons (je_ix (je_var 0 rfl (visB rfl) rfl rfl) (je_top (je_var 2 rfl (visB rfl) rfl rfl)) (fun _ _ => rfl)) (ja_cons (je_ix (je_var 1 rfl (visB rfl) rfl rfl) (je_top (je_var 2 rfl (visB rfl) rfl rfl)) (fun _ _ => rfl)) (ja_nil (pu := true)) (fun _ => rfl)) (fun _ => rfl)) rfl (ln_cons (ln_cons ln_nil)) (fun _ => rfl) (fun _ => rfl)) (fun _ _ => rfl))) (jss_one (js_ret je_bl)) jss_nil)) (fun _ _ => rfl))
  (jss_one (js_ret je_bl))))))))))
/-! ### is_kept -/
abbrev N_is_kept : List Str := ["pledges", "names"]
abbrev P_is_kept : List Str := ["pledges", "names"]
theorem s_is_kept : FnScope N_is_kept P_is_kept (defScope (top 21)) := ⟨rfl, rfl, rfl, by decide +kernel, rfl, by decide +kernel, by decide +kernel⟩
def d_is_kept : PD.Env → RS :=
  (sRet (dOp eqD (dCall r_would [] (dCons (dVar 0) (dCons (dVar 1) dNil))) (dCall r_checked_joined [] (dCons (dVar 0) (dCons (dVar 1) dNil)))))
def r_is_kept : List D → Rr := runF .fro 2 d_is_kept
theorem j_is_kept (h : Fac mg) (c_checked_joined_2 : FnD P w K mg base 4 "checked_joined" 2 [] .fro r_checked_joined) (c_would_2 : FnD P w K mg base 5 "would" 2 [] .fro r_would) : JSs ⟨P, w, K, mg, base, N_is_kept, defScope (top 21), fun _ => true, 5⟩ .fro (defBody (top 21)) d_is_kept :=
  (jss_one (js_ret (je_cmp c_eq (je_call c_would_2 (lek rfl) rfl rfl (ja_cons (je_var 0 rfl (visB rfl) rfl rfl) (ja_cons (je_var 1 rfl (visB rfl) rfl rfl) (ja_nil (pu := true)) (fun _ => rfl)) (fun _ => rfl)) rfl (ln_cons (ln_cons ln_nil)) (fun _ => rfl) (fun _ => rfl)) (je_top (je_call c_checked_joined_2 (lek rfl) rfl rfl (ja_cons (je_var 0 rfl (visB rfl) rfl rfl) (ja_cons (je_var 1 rfl (visB rfl) rfl rfl) (ja_nil (pu := true)) (fun _ => rfl)) (fun _ => rfl)) rfl (ln_cons (ln_cons ln_nil)) (fun _ => rfl) (fun _ => rfl))) rfl)))
/-! ### counts_kept -/
abbrev N_counts_kept : List Str := ["pledges", "rows", "found", "many", "name", "number", "inside", "beyond"]
abbrev P_counts_kept : List Str := ["pledges"]
theorem s_counts_kept : FnScope N_counts_kept P_counts_kept (defScope (top 25)) := ⟨rfl, rfl, rfl, by decide +kernel, rfl, by decide +kernel, by decide +kernel⟩
def d_counts_kept : PD.Env → RS :=
  (sSeq (sSet 1 (dCall r_checked_pledges [] (dCons (dVar 0) dNil)))
  (sSeq (sSetO 2 (dLst dNil))
  (sSeq (sFor (dRng1 (dCons (dOp addD (dCB lenD (dCons (dVar 1) dNil)) (dC (.int 1))) dNil)) (gN 3) (sSeq (sSet 6 (dLc [4, 5] (dSeq (dVar 1)) (gTupD 2 (gsCons (gN 4) (gsCons (gN 5) gsNil))) (dTest (dOp leD (dVar 5) (dOp subD (dVar 3) (dC (.int 1))))) (dVar 4)))
  (sSeq (sSet 7 (dLc [4, 5] (dSeq (dVar 1)) (gTupD 2 (gsCons (gN 4) (gsCons (gN 5) gsNil))) (dTest (dOp leD (dVar 5) (dVar 3))) (dVar 4)))
  (sIf (dAndT (dTest (dOp eqD (dCB lenD (dCons (dVar 6) dNil)) (dVar 3))) (dTest (dOp eqD (dCB lenD (dCons (dVar 7) dNil)) (dVar 3)))) (sApp 2 (dVar 3)) sNil))))
  (sRet (dVar 2)))))
def r_counts_kept : List D → Rr := runF .fro 8 d_counts_kept
theorem j_counts_kept (h : Fac mg) (c_checked_pledges_1 : FnD P w K mg base 3 "checked_pledges" 1 [] .fro r_checked_pledges) : JSs ⟨P, w, K, mg, base, N_counts_kept, defScope (top 25), fun _ => true, 3⟩ .fro (defBody (top 25)) d_counts_kept :=
  (jss_cons (js_set 1 (je_call c_checked_pledges_1 (lek rfl) rfl rfl (ja_cons (je_var 0 rfl (visB rfl) rfl rfl) (ja_nil (pu := true)) (fun _ => rfl)) rfl (ln_cons ln_nil) (fun _ => rfl) (fun _ => rfl)) rfl (locB rfl) (fun _ _ => rfl) (.inl rfl))
  (jss_cons (js_setO 2 (je_lst (ja_nil (pu := true))) rfl (locB rfl) (fun _ _ => rfl) (.inl rfl))
  (jss_cons (js_for (ji_range1 rfl h.f_range (ja_cons (je_top (je_add (je_cb b_len rfl h.f_len rfl (ja_cons (je_top (je_var 1 rfl (visB rfl) rfl rfl)) (ja_nil (pu := true)) (fun _ => rfl)) (by decide) rfl (fun _ => rfl) (fun _ => rfl)) (je_top je_int))) (ja_nil (pu := true)) (fun _ => rfl)) (fun _ => rfl)) (jg_name 3 rfl (locB rfl) (fnB rfl)) (jss_cons (js_setL 6 (ji_seq (je_var 1 rfl (visB rfl) rfl rfl)) (jg_tup (jgs_cons (jg_name 4 rfl (locB rfl) (fnB rfl)) (jgs_cons (jg_name 5 rfl (locB rfl) (fnB rfl)) jgs_nil (fun _ => rfl)) (fun _ => rfl)) (fun _ => rfl) (fun _ => rfl)) (jts_one (jt_cmp c_le (je_var 5 rfl (visB rfl) rfl rfl) (je_top (je_sub (je_var 3 rfl (visB rfl) rfl rfl) (je_top je_int))) rfl)) (je_var 4 rfl (visB rfl) rfl rfl) (own := [("name", 4), ("number", 5)]) rfl (by decide) (fun _ _ => rfl) rfl rfl rfl rfl rfl)
  (jss_cons (js_setL 7 (ji_seq (je_var 1 rfl (visB rfl) rfl rfl)) (jg_tup (jgs_cons (jg_name 4 rfl (locB rfl) (fnB rfl)) (jgs_cons (jg_name 5 rfl (locB rfl) (fnB rfl)) jgs_nil (fun _ => rfl)) (fun _ => rfl)) (fun _ => rfl) (fun _ => rfl)) (jts_one (jt_cmp c_le (je_var 5 rfl (visB rfl) rfl rfl) (je_top (je_var 3 rfl (visB rfl) rfl rfl)) rfl)) (je_var 4 rfl (visB rfl) rfl rfl) (own := [("name", 4), ("number", 5)]) rfl (by decide) (fun _ _ => rfl) rfl rfl rfl rfl rfl)
  (jss_one (js_if (jt_of (jw_and (jt_cmp c_eq (je_cb b_len rfl h.f_len rfl (ja_cons (je_top (je_var 6 rfl (visB rfl) rfl rfl)) (ja_nil (pu := true)) (fun _ => rfl)) (by decide) rfl (fun _ => rfl) (fun _ => rfl)) (je_top (je_var 3 rfl (visB rfl) rfl rfl)) rfl) (jw_and1 (jt_cmp c_eq (je_cb b_len rfl h.f_len rfl (ja_cons (je_top (je_var 7 rfl (visB rfl) rfl rfl)) (ja_nil (pu := true)) (fun _ => rfl)) (by decide) rfl (fun _ => rfl) (fun _ => rfl)) (je_top (je_var 3 rfl (visB rfl) rfl rfl)) rfl)))) (jss_one (js_append 2 rfl (visB rfl) rfl rfl (je_var 3 rfl (visB rfl) rfl rfl) (fun _ => rfl) (fun _ => rfl) rfl (fun _ => rfl))) jss_nil)))) (fun _ _ => rfl))
  (jss_one (js_ret (je_var 2 rfl (visB rfl) rfl rfl))))))
/-! ### _law_lots -/
abbrev N__law_lots : List Str := ["things", "found", "thing", "some"]
abbrev P__law_lots : List Str := ["things"]
theorem s__law_lots : FnScope N__law_lots P__law_lots (defScope (top 32)) := ⟨rfl, rfl, rfl, by decide +kernel, rfl, by decide +kernel, by decide +kernel⟩
def d__law_lots : PD.Env → RS :=
  (sSeq (sSet 1 (dLst (dCons (dTup dNil) dNil)))
  (sSeq (sFor (dSeq (dVar 0)) (gN 2) (sSet 1 (dOp addD (dVar 1) (dLc [3] (dSeq (dVar 1)) (gN 3) (fun ρ => .ok true ρ) (dOp addD (dVar 3) (dTup (dCons (dVar 2) dNil)))))))
  (sRet (dVar 1))))
def r__law_lots : List D → Rr := runF .fro 4 d__law_lots
theorem j__law_lots (h : Fac mg) : JSs ⟨P, w, K, mg, base, N__law_lots, defScope (top 32), fun _ => true, 0⟩ .fro (defBody (top 32)) d__law_lots :=
  (jss_cons (js_set 1 (je_own_fro (je_lst (ja_cons (je_tup (ja_nil (pu := true))) (ja_nil (pu := true)) (fun _ => rfl)))) rfl (locB rfl) (fun _ _ => rfl) (.inl rfl))
  (jss_cons (js_for (ji_seq (je_var 0 rfl (visB rfl) rfl rfl)) (jg_name 2 rfl (locB rfl) (fnB rfl)) (jss_one (js_set 1 (je_add (je_var 1 rfl (visB rfl) rfl rfl) (je_top (je_lc (ji_seq (je_var 1 rfl (visB rfl) rfl rfl)) (jg_name 3 rfl (locB rfl) (fnB rfl)) jts_nil (je_add (je_var 3 rfl (visB rfl) rfl rfl) (je_top (je_tup (ja_cons (je_var 2 rfl (visB rfl) rfl rfl) (ja_nil (pu := true)) (fun _ => rfl))))) (own := [("some", 3)]) rfl (by decide) (fun _ _ => rfl)))) rfl (locB rfl) (fun _ _ => rfl) (.inl rfl))) (fun _ _ => rfl))
  (jss_one (js_ret (je_var 1 rfl (visB rfl) rfl rfl)))))
/-! ### law -/
abbrev N_law : List Str := ["script", "state", "names", "name", "pledges", "need", "one", "less", "more", "low", "high", "some", "wide", "other", "up", "down", "rows", "k", "number", "many", "won", "free", "lot"]
abbrev P_law : List Str := ["script"]
theorem s_law : FnScope N_law P_law (defScope (top 33)) := ⟨rfl, rfl, rfl, by decide +kernel, rfl, by decide +kernel, by decide +kernel⟩
def l_1 : PD.Env → RS :=
  (sSet 2 (dSl slD (dLst (dCons (dC (.str "a")) (dCons (dC (.str "b")) (dCons (dC (.str "c")) (dCons (dC (.str "d")) (dCons (dC (.str "e")) (dCons (dC (.str "f")) (dCons (dC (.str "g")) dNil)))))))) dNoPart (dPart (dOp addD (dC (.int 2)) (dCallM 1 m__law_next (dCons (dC (.int 6)) dNil))))))
def l_2 : PD.Env → RS :=
  (sSet 4 (dLc [3] (dSeq (dVar 2)) (gN 3) (fun ρ => .ok true ρ) (dTup (dCons (dVar 3) (dCons (dCallM 1 m__law_next (dCons (dC (.int 8)) dNil)) dNil)))))
def l_3 : PD.Env → RS :=
  (sSet 5 (dCB dictD (dCons (dVar 4) dNil)))
def l_4 : PD.Env → RS :=
  (sSet 6 (dOp ixD (dVar 2) (dCallM 1 m__law_next (dCons (dCB lenD (dCons (dVar 2) dNil)) dNil))))
def l_5 : PD.Env → RS :=
  (sSet 7 (dCall r_changed [] (dCons (dVar 4) (dCons (dVar 6) (dCons (dCallM 1 m__law_next (dCons (dOp addD (dOp ixD (dVar 5) (dVar 6)) (dC (.int 1))) dNil)) dNil)))))
def l_6 : PD.Env → RS :=
  (sSet 8 (dCall r_changed [] (dCons (dVar 4) (dCons (dVar 6) (dCons (dOp addD (dOp ixD (dVar 5) (dVar 6)) (dCallM 1 m__law_next (dCons (dC (.int 5)) dNil))) dNil)))))
def l_7 : PD.Env → RS :=
  (sFor (dSeq (dLst (dCons (dTup (dCons (dVar 7) (dCons (dVar 4) dNil))) (dCons (dTup (dCons (dVar 4) (dCons (dVar 8) dNil))) dNil)))) (gTupD 2 (gsCons (gN 9) (gsCons (gN 10) gsNil))) (sSeq (sIf (dOrT (dTest (dOp neD (dLc [3] (dSeq (dCall r_fewest [] (dCons (dVar 10) dNil))) (gN 3) (dTest (dOp ninD (dVar 3) (dCall r_fewest [] (dCons (dVar 9) dNil)))) (dVar 3)) (dLst dNil))) (dTest (dOp neD (dLc [3] (dSeq (dCall r_most [] (dCons (dVar 10) dNil))) (gN 3) (dTest (dOp ninD (dVar 3) (dCall r_most [] (dCons (dVar 9) dNil)))) (dVar 3)) (dLst dNil)))) (sRet (dC (.bl false))) sNil)
  (sIf (dTest (dOp gtD (dCB lenD (dCons (dCall r_starters [] (dCons (dVar 9) dNil)) dNil)) (dCB lenD (dCons (dCall r_starters [] (dCons (dVar 10) dNil)) dNil)))) (sRet (dC (.bl false))) sNil)))
def l_8 : PD.Env → RS :=
  (sSet 11 (dLc [3] (dSeq (dVar 2)) (gN 3) (dTest (dOp eqD (dCallM 1 m__law_next (dCons (dC (.int 2)) dNil)) (dC (.int 0)))) (dVar 3)))
def l_9 : PD.Env → RS :=
  (sSet 12 (dLc [3] (dSeq (dVar 2)) (gN 3) (dOrT (dTest (dOp inD (dVar 3) (dVar 11))) (dTest (dOp eqD (dCallM 1 m__law_next (dCons (dC (.int 2)) dNil)) (dC (.int 0))))) (dVar 3)))
def l_10 : PD.Env → RS :=
  (sFor (dSeq (dVar 2)) (gN 3) (sIf (dAndT (dTest (dOp geD (dCB lenD (dCons (dLc [13] (dSeq (dVar 11)) (gN 13) (dTest (dOp neD (dVar 13) (dVar 3))) (dC (.int 1))) dNil)) (dOp ixD (dVar 5) (dVar 3)))) (dTest (dOp ninD (dVar 3) (dCall r_would [] (dCons (dVar 4) (dCons (dVar 12) dNil)))))) (sRet (dC (.bl false))) sNil))
def l_11 : PD.Env → RS :=
  (sSet 14 (dOp addD (dLst (dCons (dLst dNil) dNil)) (dCall r_steps [] (dCons (dVar 4) (dCons (dLst dNil) dNil)))))
def l_12 : PD.Env → RS :=
  (sSet 15 (dOp addD (dLst (dCons (dVar 2) dNil)) (dCall r_steps [] (dCons (dVar 4) (dCons (dVar 2) dNil)))))
def l_13 : PD.Env → RS :=
  (sIf (dOrT (dNotT (dTru (dCall r__law_same [] (dCons (dOp ixD (dVar 14) (dUn negD (dC (.int 1)))) (dCons (dCall r_fewest [] (dCons (dVar 4) dNil)) dNil))))) (dNotT (dTru (dCall r__law_same [] (dCons (dOp ixD (dVar 15) (dUn negD (dC (.int 1)))) (dCons (dCall r_most [] (dCons (dVar 4) dNil)) dNil)))))) (sRet (dC (.bl false))) sNil)
def l_14 : PD.Env → RS :=
  (sFor (dSeq (dLst (dCons (dVar 14) (dCons (dUn revD (dVar 15)) dNil)))) (gN 16) (sIf (dTest (dOp neD (dLc [17] (dRng1 (dCons (dOp subD (dCB lenD (dCons (dVar 16) dNil)) (dC (.int 1))) dNil)) (gN 17) (dTest (dOp neD (dLc [3] (dSeq (dOp ixD (dVar 16) (dVar 17))) (gN 3) (dTest (dOp ninD (dVar 3) (dOp ixD (dVar 16) (dOp addD (dVar 17) (dC (.int 1)))))) (dVar 3)) (dLst dNil))) (dVar 17)) (dLst dNil))) (sRet (dC (.bl false))) sNil))
def l_15 : PD.Env → RS :=
  (sIf (dOrT (dNotT (dTru (dCall r_is_kept [] (dCons (dVar 4) (dCons (dOp ixD (dVar 14) (dUn negD (dC (.int 1)))) dNil))))) (dNotT (dTru (dCall r_is_kept [] (dCons (dVar 4) (dCons (dOp ixD (dVar 15) (dUn negD (dC (.int 1)))) dNil)))))) (sRet (dC (.bl false))) sNil)
def l_16 : PD.Env → RS :=
  (sSet 8 (dLc [3, 18] (dSeq (dVar 4)) (gTupD 2 (gsCons (gN 3) (gsCons (gN 18) gsNil))) (fun ρ => .ok true ρ) (dTup (dCons (dVar 3) (dCons (dOp addD (dVar 18) (dC (.int 1))) dNil)))))
def l_17 : PD.Env → RS :=
  (sIf (dOrT (dNotT (dTru (dCall r__law_same [] (dCons (dCall r_counts_kept [] (dCons (dOp addD (dVar 8) (dLst (dCons (dTup (dCons (dC (.str "zed")) (dCons (dC (.int 0)) dNil))) dNil))) dNil)) (dCons (dLc [19] (dSeq (dCall r_counts_kept [] (dCons (dVar 4) dNil))) (gN 19) (fun ρ => .ok true ρ) (dOp addD (dVar 19) (dC (.int 1)))) dNil))))) (dNotT (dTru (dCall r__law_same [] (dCons (dCall r_fewest [] (dCons (dOp addD (dVar 8) (dLst (dCons (dTup (dCons (dC (.str "zed")) (dCons (dC (.int 0)) dNil))) dNil))) dNil)) (dCons (dOp addD (dCall r_fewest [] (dCons (dVar 4) dNil)) (dLst (dCons (dC (.str "zed")) dNil))) dNil)))))) (sRet (dC (.bl false))) sNil)
def l_18 : PD.Env → RS :=
  (sIf (dOrT (dNotT (dTru (dCall r__law_same [] (dCons (dCall r_counts_kept [] (dCons (dOp addD (dVar 4) (dLst (dCons (dTup (dCons (dC (.str "zoe")) (dCons (dC (.int 40)) dNil))) dNil))) dNil)) (dCons (dCall r_counts_kept [] (dCons (dVar 4) dNil)) dNil))))) (dNotT (dTru (dCall r__law_same [] (dCons (dCall r_most [] (dCons (dOp addD (dVar 4) (dLst (dCons (dTup (dCons (dC (.str "zoe")) (dCons (dC (.int 40)) dNil))) dNil))) dNil)) (dCons (dCall r_most [] (dCons (dVar 4) dNil)) dNil)))))) (sRet (dC (.bl false))) sNil)
def l_19 : PD.Env → RS :=
  (sSet 20 (dCall r_starters [] (dCons (dVar 4) dNil)))
def l_20 : PD.Env → RS :=
  (sSet 21 (dLc [3, 18] (dSeq (dVar 4)) (gTupD 2 (gsCons (gN 3) (gsCons (gN 18) gsNil))) (fun ρ => .ok true ρ) (dTup (dCons (dVar 3) (dCons (dIf (dTest (dOp inD (dVar 3) (dVar 20))) (dC (.int 0)) (dVar 18)) dNil)))))
def l_21 : PD.Env → RS :=
  (sIf (dOrT (dNotT (dTru (dCall r__law_same [] (dCons (dCall r_fewest [] (dCons (dVar 21) dNil)) (dCons (dVar 2) dNil))))) (dAndT (dTest (dOp neD (dVar 20) (dLst dNil))) (dTest (dOp eqD (dCall r_fewest [] (dCons (dLc [3, 18] (dSeq (dVar 4)) (gTupD 2 (gsCons (gN 3) (gsCons (gN 18) gsNil))) (fun ρ => .ok true ρ) (dTup (dCons (dVar 3) (dCons (dIf (dTest (dOp inD (dVar 3) (dSl slD (dVar 20) (dPart (dC (.int 1))) dNoPart))) (dC (.int 0)) (dVar 18)) dNil)))) dNil)) (dVar 2))))) (sRet (dC (.bl false))) sNil)
def l_22 : PD.Env → RS :=
  (sRet (dOp eqD (dLc [22] (dSeq (dCall r__law_lots [] (dCons (dVar 2) dNil))) (gN 22) (dAndT (dTru (dCall r_is_kept [] (dCons (dVar 4) (dCons (dCB listD (dCons (dVar 22) dNil)) dNil)))) (dTest (dOp ninD (dCB lenD (dCons (dVar 22) dNil)) (dCall r_counts_kept [] (dCons (dVar 4) dNil))))) (dVar 22)) (dLst dNil)))
def d_law : PD.Env → RS :=
  (sSeq (sSet 2 (dSl slD (dLst (dCons (dC (.str "a")) (dCons (dC (.str "b")) (dCons (dC (.str "c")) (dCons (dC (.str "d")) (dCons (dC (.str "e")) (dCons (dC (.str "f")) (dCons (dC (.str "g")) dNil)))))))) dNoPart (dPart (dOp addD (dC (.int 2)) (dCallM 1 m__law_next (dCons (dC (.int 6)) dNil))))))
  (sSeq (sSet 4 (dLc [3] (dSeq (dVar 2)) (gN 3) (fun ρ => .ok true ρ) (dTup (dCons (dVar 3) (dCons (dCallM 1 m__law_next (dCons (dC (.int 8)) dNil)) dNil)))))
  (sSeq (sSet 5 (dCB dictD (dCons (dVar 4) dNil)))
  (sSeq (sSet 6 (dOp ixD (dVar 2) (dCallM 1 m__law_next (dCons (dCB lenD (dCons (dVar 2) dNil)) dNil))))
  (sSeq (sSet 7 (dCall r_changed [] (dCons (dVar 4) (dCons (dVar 6) (dCons (dCallM 1 m__law_next (dCons (dOp addD (dOp ixD (dVar 5) (dVar 6)) (dC (.int 1))) dNil)) dNil)))))
  (sSeq (sSet 8 (dCall r_changed [] (dCons (dVar 4) (dCons (dVar 6) (dCons (dOp addD (dOp ixD (dVar 5) (dVar 6)) (dCallM 1 m__law_next (dCons (dC (.int 5)) dNil))) dNil)))))
  (sSeq (sFor (dSeq (dLst (dCons (dTup (dCons (dVar 7) (dCons (dVar 4) dNil))) (dCons (dTup (dCons (dVar 4) (dCons (dVar 8) dNil))) dNil)))) (gTupD 2 (gsCons (gN 9) (gsCons (gN 10) gsNil))) (sSeq (sIf (dOrT (dTest (dOp neD (dLc [3] (dSeq (dCall r_fewest [] (dCons (dVar 10) dNil))) (gN 3) (dTest (dOp ninD (dVar 3) (dCall r_fewest [] (dCons (dVar 9) dNil)))) (dVar 3)) (dLst dNil))) (dTest (dOp neD (dLc [3] (dSeq (dCall r_most [] (dCons (dVar 10) dNil))) (gN 3) (dTest (dOp ninD (dVar 3) (dCall r_most [] (dCons (dVar 9) dNil)))) (dVar 3)) (dLst dNil)))) (sRet (dC (.bl false))) sNil)
  (sIf (dTest (dOp gtD (dCB lenD (dCons (dCall r_starters [] (dCons (dVar 9) dNil)) dNil)) (dCB lenD (dCons (dCall r_starters [] (dCons (dVar 10) dNil)) dNil)))) (sRet (dC (.bl false))) sNil)))
  (sSeq (sSet 11 (dLc [3] (dSeq (dVar 2)) (gN 3) (dTest (dOp eqD (dCallM 1 m__law_next (dCons (dC (.int 2)) dNil)) (dC (.int 0)))) (dVar 3)))
  (sSeq (sSet 12 (dLc [3] (dSeq (dVar 2)) (gN 3) (dOrT (dTest (dOp inD (dVar 3) (dVar 11))) (dTest (dOp eqD (dCallM 1 m__law_next (dCons (dC (.int 2)) dNil)) (dC (.int 0))))) (dVar 3)))
  (sSeq (sFor (dSeq (dVar 2)) (gN 3) (sIf (dAndT (dTest (dOp geD (dCB lenD (dCons (dLc [13] (dSeq (dVar 11)) (gN 13) (dTest (dOp neD (dVar 13) (dVar 3))) (dC (.int 1))) dNil)) (dOp ixD (dVar 5) (dVar 3)))) (dTest (dOp ninD (dVar 3) (dCall r_would [] (dCons (dVar 4) (dCons (dVar 12) dNil)))))) (sRet (dC (.bl false))) sNil))
  (sSeq (sSet 14 (dOp addD (dLst (dCons (dLst dNil) dNil)) (dCall r_steps [] (dCons (dVar 4) (dCons (dLst dNil) dNil)))))
  (sSeq (sSet 15 (dOp addD (dLst (dCons (dVar 2) dNil)) (dCall r_steps [] (dCons (dVar 4) (dCons (dVar 2) dNil)))))
  (sSeq (sIf (dOrT (dNotT (dTru (dCall r__law_same [] (dCons (dOp ixD (dVar 14) (dUn negD (dC (.int 1)))) (dCons (dCall r_fewest [] (dCons (dVar 4) dNil)) dNil))))) (dNotT (dTru (dCall r__law_same [] (dCons (dOp ixD (dVar 15) (dUn negD (dC (.int 1)))) (dCons (dCall r_most [] (dCons (dVar 4) dNil)) dNil)))))) (sRet (dC (.bl false))) sNil)
  (sSeq (sFor (dSeq (dLst (dCons (dVar 14) (dCons (dUn revD (dVar 15)) dNil)))) (gN 16) (sIf (dTest (dOp neD (dLc [17] (dRng1 (dCons (dOp subD (dCB lenD (dCons (dVar 16) dNil)) (dC (.int 1))) dNil)) (gN 17) (dTest (dOp neD (dLc [3] (dSeq (dOp ixD (dVar 16) (dVar 17))) (gN 3) (dTest (dOp ninD (dVar 3) (dOp ixD (dVar 16) (dOp addD (dVar 17) (dC (.int 1)))))) (dVar 3)) (dLst dNil))) (dVar 17)) (dLst dNil))) (sRet (dC (.bl false))) sNil))
  (sSeq (sIf (dOrT (dNotT (dTru (dCall r_is_kept [] (dCons (dVar 4) (dCons (dOp ixD (dVar 14) (dUn negD (dC (.int 1)))) dNil))))) (dNotT (dTru (dCall r_is_kept [] (dCons (dVar 4) (dCons (dOp ixD (dVar 15) (dUn negD (dC (.int 1)))) dNil)))))) (sRet (dC (.bl false))) sNil)
  (sSeq (sSet 8 (dLc [3, 18] (dSeq (dVar 4)) (gTupD 2 (gsCons (gN 3) (gsCons (gN 18) gsNil))) (fun ρ => .ok true ρ) (dTup (dCons (dVar 3) (dCons (dOp addD (dVar 18) (dC (.int 1))) dNil)))))
  (sSeq (sIf (dOrT (dNotT (dTru (dCall r__law_same [] (dCons (dCall r_counts_kept [] (dCons (dOp addD (dVar 8) (dLst (dCons (dTup (dCons (dC (.str "zed")) (dCons (dC (.int 0)) dNil))) dNil))) dNil)) (dCons (dLc [19] (dSeq (dCall r_counts_kept [] (dCons (dVar 4) dNil))) (gN 19) (fun ρ => .ok true ρ) (dOp addD (dVar 19) (dC (.int 1)))) dNil))))) (dNotT (dTru (dCall r__law_same [] (dCons (dCall r_fewest [] (dCons (dOp addD (dVar 8) (dLst (dCons (dTup (dCons (dC (.str "zed")) (dCons (dC (.int 0)) dNil))) dNil))) dNil)) (dCons (dOp addD (dCall r_fewest [] (dCons (dVar 4) dNil)) (dLst (dCons (dC (.str "zed")) dNil))) dNil)))))) (sRet (dC (.bl false))) sNil)
  (sSeq (sIf (dOrT (dNotT (dTru (dCall r__law_same [] (dCons (dCall r_counts_kept [] (dCons (dOp addD (dVar 4) (dLst (dCons (dTup (dCons (dC (.str "zoe")) (dCons (dC (.int 40)) dNil))) dNil))) dNil)) (dCons (dCall r_counts_kept [] (dCons (dVar 4) dNil)) dNil))))) (dNotT (dTru (dCall r__law_same [] (dCons (dCall r_most [] (dCons (dOp addD (dVar 4) (dLst (dCons (dTup (dCons (dC (.str "zoe")) (dCons (dC (.int 40)) dNil))) dNil))) dNil)) (dCons (dCall r_most [] (dCons (dVar 4) dNil)) dNil)))))) (sRet (dC (.bl false))) sNil)
  (sSeq (sSet 20 (dCall r_starters [] (dCons (dVar 4) dNil)))
  (sSeq (sSet 21 (dLc [3, 18] (dSeq (dVar 4)) (gTupD 2 (gsCons (gN 3) (gsCons (gN 18) gsNil))) (fun ρ => .ok true ρ) (dTup (dCons (dVar 3) (dCons (dIf (dTest (dOp inD (dVar 3) (dVar 20))) (dC (.int 0)) (dVar 18)) dNil)))))
  (sSeq (sIf (dOrT (dNotT (dTru (dCall r__law_same [] (dCons (dCall r_fewest [] (dCons (dVar 21) dNil)) (dCons (dVar 2) dNil))))) (dAndT (dTest (dOp neD (dVar 20) (dLst dNil))) (dTest (dOp eqD (dCall r_fewest [] (dCons (dLc [3, 18] (dSeq (dVar 4)) (gTupD 2 (gsCons (gN 3) (gsCons (gN 18) gsNil))) (fun ρ => .ok true ρ) (dTup (dCons (dVar 3) (dCons (dIf (dTest (dOp inD (dVar 3) (dSl slD (dVar 20) (dPart (dC (.int 1))) dNoPart))) (dC (.int 0)) (dVar 18)) dNil)))) dNil)) (dVar 2))))) (sRet (dC (.bl false))) sNil)
  (sRet (dOp eqD (dLc [22] (dSeq (dCall r__law_lots [] (dCons (dVar 2) dNil))) (gN 22) (dAndT (dTru (dCall r_is_kept [] (dCons (dVar 4) (dCons (dCB listD (dCons (dVar 22) dNil)) dNil)))) (dTest (dOp ninD (dCB lenD (dCons (dVar 22) dNil)) (dCall r_counts_kept [] (dCons (dVar 4) dNil))))) (dVar 22)) (dLst dNil))))))))))))))))))))))))
theorem d_law_eq : d_law = (sSeq l_1 (sSeq l_2 (sSeq l_3 (sSeq l_4 (sSeq l_5 (sSeq l_6 (sSeq l_7 (sSeq l_8 (sSeq l_9 (sSeq l_10 (sSeq l_11 (sSeq l_12 (sSeq l_13 (sSeq l_14 (sSeq l_15 (sSeq l_16 (sSeq l_17 (sSeq l_18 (sSeq l_19 (sSeq l_20 (sSeq l_21 l_22))))))))))))))))))))) := rfl
theorem j_law (h : Fac mg) (c__law_lots_1 : FnD P w K mg base 1 "_law_lots" 1 [] .fro r__law_lots) (c__law_next_2 : FnM P w K mg base 1 "_law_next" 2 .fro m__law_next) (c__law_same_2 : FnD P w K mg base 3 "_law_same" 2 [] .fro r__law_same) (c_changed_3 : FnD P w K mg base 4 "changed" 3 [] .fro r_changed) (c_counts_kept_1 : FnD P w K mg base 4 "counts_kept" 1 [] .fro r_counts_kept) (c_fewest_1 : FnD P w K mg base 6 "fewest" 1 [] .fro r_fewest) (c_is_kept_2 : FnD P w K mg base 6 "is_kept" 2 [] .fro r_is_kept) (c_most_1 : FnD P w K mg base 6 "most" 1 [] .fro r_most) (c_starters_1 : FnD P w K mg base 4 "starters" 1 [] .fro r_starters) (c_steps_2 : FnD P w K mg base 6 "steps" 2 [] .fro r_steps) (c_would_2 : FnD P w K mg base 5 "would" 2 [] .fro r_would) : JSs ⟨P, w, K, mg, base, N_law, defScope (top 33), fun _ => true, 6⟩ .fro (defBody (top 33)).tail d_law :=
  (jss_cons (js_set 2 (je_sl (je_imp (pu := false) (je_own_fro (je_lst (ja_cons je_str (ja_cons je_str (ja_cons je_str (ja_cons je_str (ja_cons je_str (ja_cons je_str (ja_cons je_str (ja_nil (pu := true)) (fun _ => rfl)) (fun _ => rfl)) (fun _ => rfl)) (fun _ => rfl)) (fun _ => rfl)) (fun _ => rfl)) (fun _ => rfl))))) (jo_imp (pu := false) jo_none) (jo_some (je_add (je_imp (pu := false) je_int) (je_top (je_callM 1 c__law_next_2 (lek rfl) rfl rfl rfl (visB rfl) rfl rfl (ja_cons je_int (ja_nil (pu := true)) (fun _ => rfl)) rfl (ln_cons ln_nil) (fun _ => rfl) (fun _ => rfl)))))) rfl (locB rfl) (fun _ _ => rfl) (.inl rfl))
  (jss_cons (js_setC 4 (je_own_fro (je_lc (ji_imp (pu := false) (ji_seq (je_var 2 rfl (visB rfl) rfl rfl))) (jg_name 3 rfl (locB rfl) (fnB rfl)) (jts_imp (pu := false) jts_nil) (je_tup (ja_cons (je_imp (pu := false) (je_var 3 rfl (visB rfl) rfl rfl)) (ja_cons (je_callM 1 c__law_next_2 (lek rfl) rfl rfl rfl (visB rfl) rfl rfl (ja_cons je_int (ja_nil (pu := true)) (fun _ => rfl)) rfl (ln_cons ln_nil) (fun _ => rfl) (fun _ => rfl)) (ja_nil (pu := true)) (fun _ => rfl)) (fun _ => rfl))) (own := [("name", 3)]) rfl (by decide) (fun _ _ => rfl))) rfl rfl rfl)
  (jss_cons (js_set 5 (je_own_fro (je_ct b_dict rfl h.f_dict rfl (ja_cons (je_top (je_var 4 rfl (visB rfl) rfl rfl)) (ja_nil (pu := true)) (fun _ => rfl)) (by decide) rfl (fun _ => rfl) (fun _ => rfl))) rfl (locB rfl) (fun _ _ => rfl) (.inl rfl))
  (jss_cons (js_set 6 (je_ix (je_imp (pu := false) (je_var 2 rfl (visB rfl) rfl rfl)) (je_top (je_callM 1 c__law_next_2 (lek rfl) rfl rfl rfl (visB rfl) rfl rfl (ja_cons (je_cb b_len rfl h.f_len rfl (ja_cons (je_top (je_var 2 rfl (visB rfl) rfl rfl)) (ja_nil (pu := true)) (fun _ => rfl)) (by decide) rfl (fun _ => rfl) (fun _ => rfl)) (ja_nil (pu := true)) (fun _ => rfl)) rfl (ln_cons ln_nil) (fun _ => rfl) (fun _ => rfl))) (fun _ _ => rfl)) rfl (locB rfl) (fun _ _ => rfl) (.inl rfl))
  (jss_cons (js_set 7 (je_call c_changed_3 (lek rfl) rfl rfl (ja_cons (je_imp (pu := false) (je_var 4 rfl (visB rfl) rfl rfl)) (ja_cons (je_imp (pu := false) (je_var 6 rfl (visB rfl) rfl rfl)) (ja_cons (je_callM 1 c__law_next_2 (lek rfl) rfl rfl rfl (visB rfl) rfl rfl (ja_cons (je_add (je_ix (je_var 5 rfl (visB rfl) rfl rfl) (je_top (je_var 6 rfl (visB rfl) rfl rfl)) (fun _ _ => rfl)) (je_top je_int)) (ja_nil (pu := true)) (fun _ => rfl)) rfl (ln_cons ln_nil) (fun _ => rfl) (fun _ => rfl)) (ja_nil (pu := true)) (fun _ => rfl)) (fun _ => rfl)) (fun _ => rfl)) rfl (ln_cons (ln_cons (ln_cons ln_nil))) (fun _ => rfl) (fun _ => rfl)) rfl (locB rfl) (fun _ _ => rfl) (.inl rfl))
  (jss_cons (js_set 8 (je_call c_changed_3 (lek rfl) rfl rfl (ja_cons (je_imp (pu := false) (je_var 4 rfl (visB rfl) rfl rfl)) (ja_cons (je_imp (pu := false) (je_var 6 rfl (visB rfl) rfl rfl)) (ja_cons (je_add (je_imp (pu := false) (je_ix (je_var 5 rfl (visB rfl) rfl rfl) (je_top (je_var 6 rfl (visB rfl) rfl rfl)) (fun _ _ => rfl))) (je_top (je_callM 1 c__law_next_2 (lek rfl) rfl rfl rfl (visB rfl) rfl rfl (ja_cons je_int (ja_nil (pu := true)) (fun _ => rfl)) rfl (ln_cons ln_nil) (fun _ => rfl) (fun _ => rfl)))) (ja_nil (pu := true)) (fun _ => rfl)) (fun _ => rfl)) (fun _ => rfl)) rfl (ln_cons (ln_cons (ln_cons ln_nil))) (fun _ => rfl) (fun _ => rfl)) rfl (locB rfl) (fun _ _ => rfl) (.inl rfl))
  (jss_cons (js_for (ji_seq (je_own_fro (je_lst (ja_cons (je_tup (ja_cons (je_var 7 rfl (visB rfl) rfl rfl) (ja_cons (je_var 4 rfl (visB rfl) rfl rfl) (ja_nil (pu := true)) (fun _ => rfl)) (fun _ => rfl))) (ja_cons (je_tup (ja_cons (je_var 4 rfl (visB rfl) rfl rfl) (ja_cons (je_var 8 rfl (visB rfl) rfl rfl) (ja_nil (pu := true)) (fun _ => rfl)) (fun _ => rfl))) (ja_nil (pu := true)) (fun _ => rfl)) (fun _ => rfl))))) (jg_tup (jgs_cons (jg_name 9 rfl (locB rfl) (fnB rfl)) (jgs_cons (jg_name 10 rfl (locB rfl) (fnB rfl)) jgs_nil (fun _ => rfl)) (fun _ => rfl)) (fun _ => rfl) (fun _ => rfl)) (jss_cons (js_if (jt_of (jw_or (jt_cmp c_ne (je_own_fro (je_lc (ji_seq (je_call c_fewest_1 (lek rfl) rfl rfl (ja_cons (je_var 10 rfl (visB rfl) rfl rfl) (ja_nil (pu := true)) (fun _ => rfl)) rfl (ln_cons ln_nil) (fun _ => rfl) (fun _ => rfl))) (jg_name 3 rfl (locB rfl) (fnB rfl)) (jts_one (jt_cmp c_nin (je_var 3 rfl (visB rfl) rfl rfl) (je_top (je_call c_fewest_1 (lek rfl) rfl rfl (ja_cons (je_var 9 rfl (visB rfl) rfl rfl) (ja_nil (pu := true)) (fun _ => rfl)) rfl (ln_cons ln_nil) (fun _ => rfl) (fun _ => rfl))) rfl)) (je_var 3 rfl (visB rfl) rfl rfl) (own := [("name", 3)]) rfl (by decide) (fun _ _ => rfl))) (je_top (je_lst (ja_nil (pu := true)))) rfl) (jw_or1 (jt_cmp c_ne (je_own_fro (je_lc (ji_seq (je_call c_most_1 (lek rfl) rfl rfl (ja_cons (je_var 10 rfl (visB rfl) rfl rfl) (ja_nil (pu := true)) (fun _ => rfl)) rfl (ln_cons ln_nil) (fun _ => rfl) (fun _ => rfl))) (jg_name 3 rfl (locB rfl) (fnB rfl)) (jts_one (jt_cmp c_nin (je_var 3 rfl (visB rfl) rfl rfl) (je_top (je_call c_most_1 (lek rfl) rfl rfl (ja_cons (je_var 9 rfl (visB rfl) rfl rfl) (ja_nil (pu := true)) (fun _ => rfl)) rfl (ln_cons ln_nil) (fun _ => rfl) (fun _ => rfl))) rfl)) (je_var 3 rfl (visB rfl) rfl rfl) (own := [("name", 3)]) rfl (by decide) (fun _ _ => rfl))) (je_top (je_lst (ja_nil (pu := true)))) rfl)))) (jss_one (js_ret je_bl)) jss_nil)
  (jss_one (js_if (jt_cmp c_gt (je_cb b_len rfl h.f_len rfl (ja_cons (je_top (je_call c_starters_1 (lek rfl) rfl rfl (ja_cons (je_var 9 rfl (visB rfl) rfl rfl) (ja_nil (pu := true)) (fun _ => rfl)) rfl (ln_cons ln_nil) (fun _ => rfl) (fun _ => rfl))) (ja_nil (pu := true)) (fun _ => rfl)) (by decide) rfl (fun _ => rfl) (fun _ => rfl)) (je_top (je_cb b_len rfl h.f_len rfl (ja_cons (je_top (je_call c_starters_1 (lek rfl) rfl rfl (ja_cons (je_var 10 rfl (visB rfl) rfl rfl) (ja_nil (pu := true)) (fun _ => rfl)) rfl (ln_cons ln_nil) (fun _ => rfl) (fun _ => rfl))) (ja_nil (pu := true)) (fun _ => rfl)) (by decide) rfl (fun _ => rfl) (fun _ => rfl))) rfl) (jss_one (js_ret je_bl)) jss_nil))) (fun _ _ => rfl))
  (jss_cons (js_setC 11 (je_own_fro (je_lc (ji_imp (pu := false) (ji_seq (je_var 2 rfl (visB rfl) rfl rfl))) (jg_name 3 rfl (locB rfl) (fnB rfl)) (jts_one (jt_cmp c_eq (je_callM 1 c__law_next_2 (lek rfl) rfl rfl rfl (visB rfl) rfl rfl (ja_cons je_int (ja_nil (pu := true)) (fun _ => rfl)) rfl (ln_cons ln_nil) (fun _ => rfl) (fun _ => rfl)) (je_top je_int) rfl)) (je_imp (pu := false) (je_var 3 rfl (visB rfl) rfl rfl)) (own := [("name", 3)]) rfl (by decide) (fun _ _ => rfl))) rfl rfl rfl)
  (jss_cons (js_setL 12 (ji_imp (pu := false) (ji_seq (je_var 2 rfl (visB rfl) rfl rfl))) (jg_name 3 rfl (locB rfl) (fnB rfl)) (jts_one (jt_of (jw_or (jt_imp (pu := false) (jt_cmp c_in (je_var 3 rfl (visB rfl) rfl rfl) (je_top (je_var 11 rfl (visB rfl) rfl rfl)) rfl)) (jw_or1 (jt_cmp c_eq (je_callM 1 c__law_next_2 (lek rfl) rfl rfl rfl (visB rfl) rfl rfl (ja_cons je_int (ja_nil (pu := true)) (fun _ => rfl)) rfl (ln_cons ln_nil) (fun _ => rfl) (fun _ => rfl)) (je_top je_int) rfl))))) (je_imp (pu := false) (je_var 3 rfl (visB rfl) rfl rfl)) (own := [("name", 3)]) rfl (by decide) (fun _ _ => rfl) rfl rfl rfl rfl rfl)
  (jss_cons (js_for (ji_seq (je_var 2 rfl (visB rfl) rfl rfl)) (jg_name 3 rfl (locB rfl) (fnB rfl)) (jss_one (js_if (jt_of (jw_and (jt_cmp c_ge (je_cb b_len rfl h.f_len rfl (ja_cons (je_top (je_lc (ji_seq (je_var 11 rfl (visB rfl) rfl rfl)) (jg_name 13 rfl (locB rfl) (fnB rfl)) (jts_one (jt_cmp c_ne (je_var 13 rfl (visB rfl) rfl rfl) (je_top (je_var 3 rfl (visB rfl) rfl rfl)) rfl)) je_int (own := [("other", 13)]) rfl (by decide) (fun _ _ => rfl))) (ja_nil (pu := true)) (fun _ => rfl)) (by decide) rfl (fun _ => rfl) (fun _ => rfl)) (je_top (je_ix (je_var 5 rfl (visB rfl) rfl rfl) (je_top (je_var 3 rfl (visB rfl) rfl rfl)) (fun _ _ => rfl))) rfl) (jw_and1 (jt_cmp c_nin (je_var 3 rfl (visB rfl) rfl rfl) (je_top (je_call c_would_2 (lek rfl) rfl rfl (ja_cons (je_var 4 rfl (visB rfl) rfl rfl) (ja_cons (je_var 12 rfl (visB rfl) rfl rfl) (ja_nil (pu := true)) (fun _ => rfl)) (fun _ => rfl)) rfl (ln_cons (ln_cons ln_nil)) (fun _ => rfl) (fun _ => rfl))) rfl)))) (jss_one (js_ret je_bl)) jss_nil)) (fun _ _ => rfl))
  (jss_cons (js_set 14 (je_add (je_own_fro (je_lst (ja_cons (je_own_fro (je_lst (ja_nil (pu := true)))) (ja_nil (pu := true)) (fun _ => rfl)))) (je_top (je_call c_steps_2 (lek rfl) rfl rfl (ja_cons (je_var 4 rfl (visB rfl) rfl rfl) (ja_cons (je_own_fro (je_lst (ja_nil (pu := true)))) (ja_nil (pu := true)) (fun _ => rfl)) (fun _ => rfl)) rfl (ln_cons (ln_cons ln_nil)) (fun _ => rfl) (fun _ => rfl)))) rfl (locB rfl) (fun _ _ => rfl) (.inl rfl))
  (jss_cons (js_set 15 (je_add (je_own_fro (je_lst (ja_cons (je_var 2 rfl (visB rfl) rfl rfl) (ja_nil (pu := true)) (fun _ => rfl)))) (je_top (je_call c_steps_2 (lek rfl) rfl rfl (ja_cons (je_var 4 rfl (visB rfl) rfl rfl) (ja_cons (je_var 2 rfl (visB rfl) rfl rfl) (ja_nil (pu := true)) (fun _ => rfl)) (fun _ => rfl)) rfl (ln_cons (ln_cons ln_nil)) (fun _ => rfl) (fun _ => rfl)))) rfl (locB rfl) (fun _ _ => rfl) (.inl rfl))
  (jss_cons (js_if (jt_of (jw_or (jt_not (jt_tru (je_call c__law_same_2 (lek rfl) rfl rfl (ja_cons (je_ix (je_var 14 rfl (visB rfl) rfl rfl) (je_top (je_neg je_int)) (fun _ _ => rfl)) (ja_cons (je_call c_fewest_1 (lek rfl) rfl rfl (ja_cons (je_var 4 rfl (visB rfl) rfl rfl) (ja_nil (pu := true)) (fun _ => rfl)) rfl (ln_cons ln_nil) (fun _ => rfl) (fun _ => rfl)) (ja_nil (pu := true)) (fun _ => rfl)) (fun _ => rfl)) rfl (ln_cons (ln_cons ln_nil)) (fun _ => rfl) (fun _ => rfl)) (fun _ _ => rfl))) (jw_or1 (jt_not (jt_tru (je_call c__law_same_2 (lek rfl) rfl rfl (ja_cons (je_ix (je_var 15 rfl (visB rfl) rfl rfl) (je_top (je_neg je_int)) (fun _ _ => rfl)) (ja_cons (je_call c_most_1 (lek rfl) rfl rfl (ja_cons (je_var 4 rfl (visB rfl) rfl rfl) (ja_nil (pu := true)) (fun _ => rfl)) rfl (ln_cons ln_nil) (fun _ => rfl) (fun _ => rfl)) (ja_nil (pu := true)) (fun _ => rfl)) (fun _ => rfl)) rfl (ln_cons (ln_cons ln_nil)) (fun _ => rfl) (fun _ => rfl)) (fun _ _ => rfl)))))) (jss_one (js_ret je_bl)) jss_nil)
  (jss_cons (js_for (ji_seq (je_own_fro (je_lst (ja_cons (je_var 14 rfl (visB rfl) rfl rfl) (ja_cons (je_own_fro (je_rev (je_var 15 rfl (visB rfl) rfl rfl))) (ja_nil (pu := true)) (fun _ => rfl)) (fun _ => rfl))))) (jg_name 16 rfl (locB rfl) (fnB rfl)) (jss_one (js_if (jt_cmp c_ne (je_own_fro (je_lc (ji_range1 rfl h.f_range (ja_cons (je_top (je_sub (je_cb b_len rfl h.f_len rfl (ja_cons (je_top (je_var 16 rfl (visB rfl) rfl rfl)) (ja_nil (pu := true)) (fun _ => rfl)) (by decide) rfl (fun _ => rfl) (fun _ => rfl)) (je_top je_int))) (ja_nil (pu := true)) (fun _ => rfl)) (fun _ => rfl)) (jg_name 17 rfl (locB rfl) (fnB rfl)) (jts_one (jt_cmp c_ne (je_own_fro (je_lc (ji_seq (je_ix (je_var 16 rfl (visB rfl) rfl rfl) (je_top (je_var 17 rfl (visB rfl) rfl rfl)) (fun _ _ => rfl))) (jg_name 3 rfl (locB rfl) (fnB rfl)) (jts_one (jt_cmp c_nin (je_var 3 rfl (visB rfl) rfl rfl) (je_top (je_ix (je_var 16 rfl (visB rfl) rfl rfl) (je_top (je_add (je_var 17 rfl (visB rfl) rfl rfl) (je_top je_int))) (fun _ _ => rfl))) rfl)) (je_var 3 rfl (visB rfl) rfl rfl) (own := [("name", 3)]) rfl (by decide) (fun _ _ => rfl))) (je_top (je_lst (ja_nil (pu := true)))) rfl)) (je_var 17 rfl (visB rfl) rfl rfl) (own := [("k", 17)]) rfl (by decide) (fun _ _ => rfl))) (je_top (je_lst (ja_nil (pu := true)))) rfl) (jss_one (js_ret je_bl)) jss_nil)) (fun _ _ => rfl))
  (jss_cons (js_if (jt_of (jw_or (jt_not (jt_tru (je_call c_is_kept_2 (lek rfl) rfl rfl (ja_cons (je_var 4 rfl (visB rfl) rfl rfl) (ja_cons (je_ix (je_var 14 rfl (visB rfl) rfl rfl) (je_top (je_neg je_int)) (fun _ _ => rfl)) (ja_nil (pu := true)) (fun _ => rfl)) (fun _ => rfl)) rfl (ln_cons (ln_cons ln_nil)) (fun _ => rfl) (fun _ => rfl)) (fun _ _ => rfl))) (jw_or1 (jt_not (jt_tru (je_call c_is_kept_2 (lek rfl) rfl rfl (ja_cons (je_var 4 rfl (visB rfl) rfl rfl) (ja_cons (je_ix (je_var 15 rfl (visB rfl) rfl rfl) (je_top (je_neg je_int)) (fun _ _ => rfl)) (ja_nil (pu := true)) (fun _ => rfl)) (fun _ => rfl)) rfl (ln_cons (ln_cons ln_nil)) (fun _ => rfl) (fun _ => rfl)) (fun _ _ => rfl)))))) (jss_one (js_ret je_bl)) jss_nil)
  (jss_cons (js_setL 8 (ji_seq (je_var 4 rfl (visB rfl) rfl rfl)) (jg_tup (jgs_cons (jg_name 3 rfl (locB rfl) (fnB rfl)) (jgs_cons (jg_name 18 rfl (locB rfl) (fnB rfl)) jgs_nil (fun _ => rfl)) (fun _ => rfl)) (fun _ => rfl) (fun _ => rfl)) jts_nil (je_tup (ja_cons (je_var 3 rfl (visB rfl) rfl rfl) (ja_cons (je_add (je_var 18 rfl (visB rfl) rfl rfl) (je_top je_int)) (ja_nil (pu := true)) (fun _ => rfl)) (fun _ => rfl))) (own := [("name", 3), ("number", 18)]) rfl (by decide) (fun _ _ => rfl) rfl rfl rfl rfl rfl)
  (jss_cons (js_if (jt_of (jw_or (jt_not (jt_tru (je_call c__law_same_2 (lek rfl) rfl rfl (ja_cons (je_call c_counts_kept_1 (lek rfl) rfl rfl (ja_cons (je_add (je_var 8 rfl (visB rfl) rfl rfl) (je_top (je_lst (ja_cons (je_tup (ja_cons je_str (ja_cons je_int (ja_nil (pu := true)) (fun _ => rfl)) (fun _ => rfl))) (ja_nil (pu := true)) (fun _ => rfl))))) (ja_nil (pu := true)) (fun _ => rfl)) rfl (ln_cons ln_nil) (fun _ => rfl) (fun _ => rfl)) (ja_cons (je_own_fro (je_lc (ji_seq (je_call c_counts_kept_1 (lek rfl) rfl rfl (ja_cons (je_var 4 rfl (visB rfl) rfl rfl) (ja_nil (pu := true)) (fun _ => rfl)) rfl (ln_cons ln_nil) (fun _ => rfl) (fun _ => rfl))) (jg_name 19 rfl (locB rfl) (fnB rfl)) jts_nil (je_add (je_var 19 rfl (visB rfl) rfl rfl) (je_top je_int)) (own := [("many", 19)]) rfl (by decide) (fun _ _ => rfl))) (ja_nil (pu := true)) (fun _ => rfl)) (fun _ => rfl)) rfl (ln_cons (ln_cons ln_nil)) (fun _ => rfl) (fun _ => rfl)) (fun _ _ => rfl))) (jw_or1 (jt_not (jt_tru (je_call c__law_same_2 (lek rfl) rfl rfl (ja_cons (je_call c_fewest_1 (lek rfl) rfl rfl (ja_cons (je_add (je_var 8 rfl (visB rfl) rfl rfl) (je_top (je_lst (ja_cons (je_tup (ja_cons je_str (ja_cons je_int (ja_nil (pu := true)) (fun _ => rfl)) (fun _ => rfl))) (ja_nil (pu := true)) (fun _ => rfl))))) (ja_nil (pu := true)) (fun _ => rfl)) rfl (ln_cons ln_nil) (fun _ => rfl) (fun _ => rfl)) (ja_cons (je_add (je_call c_fewest_1 (lek rfl) rfl rfl (ja_cons (je_var 4 rfl (visB rfl) rfl rfl) (ja_nil (pu := true)) (fun _ => rfl)) rfl (ln_cons ln_nil) (fun _ => rfl) (fun _ => rfl)) (je_top (je_lst (ja_cons je_str (ja_nil (pu := true)) (fun _ => rfl))))) (ja_nil (pu := true)) (fun _ => rfl)) (fun _ => rfl)) rfl (ln_cons (ln_cons ln_nil)) (fun _ => rfl) (fun _ => rfl)) (fun _ _ => rfl)))))) (jss_one (js_ret je_bl)) jss_nil)
  (jss_cons (js_if (jt_of (jw_or (jt_not (jt_tru (je_call c__law_same_2 (lek rfl) rfl rfl (ja_cons (je_call c_counts_kept_1 (lek rfl) rfl rfl (ja_cons (je_add (je_var 4 rfl (visB rfl) rfl rfl) (je_top (je_lst (ja_cons (je_tup (ja_cons je_str (ja_cons je_int (ja_nil (pu := true)) (fun _ => rfl)) (fun _ => rfl))) (ja_nil (pu := true)) (fun _ => rfl))))) (ja_nil (pu := true)) (fun _ => rfl)) rfl (ln_cons ln_nil) (fun _ => rfl) (fun _ => rfl)) (ja_cons (je_call c_counts_kept_1 (lek rfl) rfl rfl (ja_cons (je_var 4 rfl (visB rfl) rfl rfl) (ja_nil (pu := true)) (fun _ => rfl)) rfl (ln_cons ln_nil) (fun _ => rfl) (fun _ => rfl)) (ja_nil (pu := true)) (fun _ => rfl)) (fun _ => rfl)) rfl (ln_cons (ln_cons ln_nil)) (fun _ => rfl) (fun _ => rfl)) (fun _ _ => rfl))) (jw_or1 (jt_not (jt_tru (je_call c__law_same_2 (lek rfl) rfl rfl (ja_cons (je_call c_most_1 (lek rfl) rfl rfl (ja_cons (je_add (je_var 4 rfl (visB rfl) rfl rfl) (je_top (je_lst (ja_cons (je_tup (ja_cons je_str (ja_cons je_int (ja_nil (pu := true)) (fun _ => rfl)) (fun _ => rfl))) (ja_nil (pu := true)) (fun _ => rfl))))) (ja_nil (pu := true)) (fun _ => rfl)) rfl (ln_cons ln_nil) (fun _ => rfl) (fun _ => rfl)) (ja_cons (je_call c_most_1 (lek rfl) rfl rfl (ja_cons (je_var 4 rfl (visB rfl) rfl rfl) (ja_nil (pu := true)) (fun _ => rfl)) rfl (ln_cons ln_nil) (fun _ => rfl) (fun _ => rfl)) (ja_nil (pu := true)) (fun _ => rfl)) (fun _ => rfl)) rfl (ln_cons (ln_cons ln_nil)) (fun _ => rfl) (fun _ => rfl)) (fun _ _ => rfl)))))) (jss_one (js_ret je_bl)) jss_nil)
  (jss_cons (js_set 20 (je_call c_starters_1 (lek rfl) rfl rfl (ja_cons (je_var 4 rfl (visB rfl) rfl rfl) (ja_nil (pu := true)) (fun _ => rfl)) rfl (ln_cons ln_nil) (fun _ => rfl) (fun _ => rfl)) rfl (locB rfl) (fun _ _ => rfl) (.inl rfl))
  (jss_cons (js_setL 21 (ji_seq (je_var 4 rfl (visB rfl) rfl rfl)) (jg_tup (jgs_cons (jg_name 3 rfl (locB rfl) (fnB rfl)) (jgs_cons (jg_name 18 rfl (locB rfl) (fnB rfl)) jgs_nil (fun _ => rfl)) (fun _ => rfl)) (fun _ => rfl) (fun _ => rfl)) jts_nil (je_tup (ja_cons (je_var 3 rfl (visB rfl) rfl rfl) (ja_cons (je_if (jt_cmp c_in (je_var 3 rfl (visB rfl) rfl rfl) (je_top (je_var 20 rfl (visB rfl) rfl rfl)) rfl) je_int (je_var 18 rfl (visB rfl) rfl rfl)) (ja_nil (pu := true)) (fun _ => rfl)) (fun _ => rfl))) (own := [("name", 3), ("number", 18)]) rfl (by decide) (fun _ _ => rfl) rfl rfl rfl rfl rfl)
  (jss_cons (js_if (jt_of (jw_or (jt_not (jt_tru (je_call c__law_same_2 (lek rfl) rfl rfl (ja_cons (je_call c_fewest_1 (lek rfl) rfl rfl (ja_cons (je_var 21 rfl (visB rfl) rfl rfl) (ja_nil (pu := true)) (fun _ => rfl)) rfl (ln_cons ln_nil) (fun _ => rfl) (fun _ => rfl)) (ja_cons (je_var 2 rfl (visB rfl) rfl rfl) (ja_nil (pu := true)) (fun _ => rfl)) (fun _ => rfl)) rfl (ln_cons (ln_cons ln_nil)) (fun _ => rfl) (fun _ => rfl)) (fun _ _ => rfl))) (jw_or1 (jt_of (jw_and (jt_cmp c_ne (je_var 20 rfl (visB rfl) rfl rfl) (je_top (je_lst (ja_nil (pu := true)))) rfl) (jw_and1 (jt_cmp c_eq (je_call c_fewest_1 (lek rfl) rfl rfl (ja_cons (je_own_fro (je_lc (ji_seq (je_var 4 rfl (visB rfl) rfl rfl)) (jg_tup (jgs_cons (jg_name 3 rfl (locB rfl) (fnB rfl)) (jgs_cons (jg_name 18 rfl (locB rfl) (fnB rfl)) jgs_nil (fun _ => rfl)) (fun _ => rfl)) (fun _ => rfl) (fun _ => rfl)) jts_nil (je_tup (ja_cons (je_var 3 rfl (visB rfl) rfl rfl) (ja_cons (je_if (jt_cmp c_in (je_var 3 rfl (visB rfl) rfl rfl) (je_top (je_sl (je_var 20 rfl (visB rfl) rfl rfl) (jo_some je_int) jo_none)) rfl) je_int (je_var 18 rfl (visB rfl) rfl rfl)) (ja_nil (pu := true)) (fun _ => rfl)) (fun _ => rfl))) (own := [("name", 3), ("number", 18)]) rfl (by decide) (fun _ _ => rfl))) (ja_nil (pu := true)) (fun _ => rfl)) rfl (ln_cons ln_nil) (fun _ => rfl) (fun _ => rfl)) (je_top (je_var 2 rfl (visB rfl) rfl rfl)) rfl))))))) (jss_one (js_ret je_bl)) jss_nil)
  (jss_one (js_ret (je_cmp c_eq (je_own_fro (je_lc (ji_seq (je_call c__law_lots_1 (lek rfl) rfl rfl (ja_cons (je_var 2 rfl (visB rfl) rfl rfl) (ja_nil (pu := true)) (fun _ => rfl)) rfl (ln_cons ln_nil) (fun _ => rfl) (fun _ => rfl))) (jg_name 22 rfl (locB rfl) (fnB rfl)) (jts_one (jt_of (jw_and (jt_tru (je_call c_is_kept_2 (lek rfl) rfl rfl (ja_cons (je_var 4 rfl (visB rfl) rfl rfl) (ja_cons (je_own_fro (je_ct b_list rfl h.f_list rfl (ja_cons (je_top (je_var 22 rfl (visB rfl) rfl rfl)) (ja_nil (pu := true)) (fun _ => rfl)) (by decide) rfl (fun _ => rfl) (fun _ => rfl))) (ja_nil (pu := true)) (fun _ => rfl)) (fun _ => rfl)) rfl (ln_cons (ln_cons ln_nil)) (fun _ => rfl) (fun _ => rfl)) (fun _ _ => rfl)) (jw_and1 (jt_cmp c_nin (je_cb b_len rfl h.f_len rfl (ja_cons (je_top (je_var 22 rfl (visB rfl) rfl rfl)) (ja_nil (pu := true)) (fun _ => rfl)) (by decide) rfl (fun _ => rfl) (fun _ => rfl)) (je_top (je_call c_counts_kept_1 (lek rfl) rfl rfl (ja_cons (je_var 4 rfl (visB rfl) rfl rfl) (ja_nil (pu := true)) (fun _ => rfl)) rfl (ln_cons ln_nil) (fun _ => rfl) (fun _ => rfl))) rfl))))) (je_var 22 rfl (visB rfl) rfl rfl) (own := [("lot", 22)]) rfl (by decide) (fun _ _ => rfl))) (je_top (je_lst (ja_nil (pu := true)))) rfl))))))))))))))))))))))))
end
/-! ### the head -/
def dd__law_next : He.DefD := ⟨("_law_next", none), "_law_next", "_law_next", defArgs (top 30), defBody (top 30), defScope (top 30), [], []⟩
def dd_is_name : He.DefD := ⟨("is_name", none), "is_name", "is_name", defArgs (top 12), defBody (top 12), defScope (top 12), [], []⟩
def dd_checked_name : He.DefD := ⟨("checked_name", none), "checked_name", "checked_name", defArgs (top 13), defBody (top 13), defScope (top 13), [], []⟩
def dd_is_number : He.DefD := ⟨("is_number", none), "is_number", "is_number", defArgs (top 14), defBody (top 14), defScope (top 14), [.int 0, .int 1000000], []⟩
def dd_checked_number : He.DefD := ⟨("checked_number", none), "checked_number", "checked_number", defArgs (top 15), defBody (top 15), defScope (top 15), [.int 0, .int 1000000], []⟩
def dd_checked_pledges : He.DefD := ⟨("checked_pledges", none), "checked_pledges", "checked_pledges", defArgs (top 18), defBody (top 18), defScope (top 18), [], []⟩
def dd_changed : He.DefD := ⟨("changed", none), "changed", "changed", defArgs (top 28), defBody (top 28), defScope (top 28), [], []⟩
def dd_checked_joined : He.DefD := ⟨("checked_joined", none), "checked_joined", "checked_joined", defArgs (top 19), defBody (top 19), defScope (top 19), [], []⟩
def dd_would : He.DefD := ⟨("would", none), "would", "would", defArgs (top 20), defBody (top 20), defScope (top 20), [], []⟩
def dd_fewest : He.DefD := ⟨("fewest", none), "fewest", "fewest", defArgs (top 22), defBody (top 22), defScope (top 22), [], []⟩
def dd_most : He.DefD := ⟨("most", none), "most", "most", defArgs (top 23), defBody (top 23), defScope (top 23), [], []⟩
def dd__all_join : He.DefD := ⟨("_all_join", none), "_all_join", "_all_join", defArgs (top 27), defBody (top 27), defScope (top 27), [], []⟩
def dd_starters : He.DefD := ⟨("starters", none), "starters", "starters", defArgs (top 26), defBody (top 26), defScope (top 26), [], []⟩
def dd_steps : He.DefD := ⟨("steps", none), "steps", "steps", defArgs (top 24), defBody (top 24), defScope (top 24), [], []⟩
def dd__law_same : He.DefD := ⟨("_law_same", none), "_law_same", "_law_same", defArgs (top 31), defBody (top 31), defScope (top 31), [], []⟩
def dd_is_kept : He.DefD := ⟨("is_kept", none), "is_kept", "is_kept", defArgs (top 21), defBody (top 21), defScope (top 21), [], []⟩
def dd_counts_kept : He.DefD := ⟨("counts_kept", none), "counts_kept", "counts_kept", defArgs (top 25), defBody (top 25), defScope (top 25), [], []⟩
def dd__law_lots : He.DefD := ⟨("_law_lots", none), "_law_lots", "_law_lots", defArgs (top 32), defBody (top 32), defScope (top 32), [], []⟩
def dd_law : He.DefD := ⟨("law", none), "law", "law", defArgs (top 33), defBody (top 33), defScope (top 33), [], []⟩
def fn : List He.DefD := [dd__law_next, dd_is_name, dd_checked_name, dd_is_number, dd_checked_number, dd_checked_pledges, dd_changed, dd_checked_joined, dd_would, dd_fewest, dd_most, dd__all_join, dd_starters, dd_steps, dd__law_same, dd_is_kept, dd_counts_kept, dd__law_lots, dd_law]
def fa : List He.Fa := [.glo "_law_next", .glo "is_name", .glo "checked_name", .glo "is_number", .glo "checked_number", .glo "checked_pledges", .glo "changed", .glo "checked_joined", .glo "would", .glo "fewest", .glo "most", .glo "_all_join", .glo "starters", .glo "steps", .glo "_law_same", .glo "is_kept", .glo "counts_kept", .glo "_law_lots", .glo "law", .free "abs", .free "bool", .free "dict", .free "int", .free "isinstance", .free "len", .free "list", .free "range", .free "sorted", .free "str", .free "tuple", .str "LETTERS" "abcdefghijklmnopqrstuvwxyz", .int "LONGEST" (12), .int "MOST" (40)]
abbrev R : PySem.W.OpenRow := PySem.W.OpenLaw.row PySem.Challenge.rw_manychoose_k41_pledges_that_change
abbrev hk : PySem.W.Hook := He.hookD 4 fa fn
def ob (s : PySem.W.SharedT) : He.AlD := He.obsDG 4 fa fn (HandSHeadRun.getT s)
theorem ob_eq (s : PySem.W.SharedT) : ob s = hk.obs s.abs := He.obsDG_eq (HandSHeadRun.getT_eq s)
def nm0 : List Str := ["__name__", "ChooseError", "InvalidName", "InvalidNumber", "DuplicateName", "UnknownName", "TooMany", "InvalidPaper", "LETTERS", "LONGEST", "GREATEST", "is_name", "checked_name", "is_number", "checked_number", "MOST", "checked_pledges", "checked_joined", "would", "is_kept", "fewest", "most", "steps", "counts_kept", "starters", "_all_join", "changed", "_law_next", "_law_same", "_law_lots"]
abbrev nms : List Str := nm0
theorem run (w : World) : HandSHeadRun.RunEq R (PySem.W.view R.prog [33]) hk ob 20000 nms w := by
  intro os
  kernel_rfl
section
variable {P : Program} {w : World} {K : PySem.W.Frag} {h : Heap} {mg : Str → Option Value}
theorem fac (X : K.In h) (G : h.Ns mainGlobals mg) (c : He.SaysD fa fn K) : Fac mg := ⟨He.free_ok X G (c.fact 19 (f := .free "abs") rfl),
  He.free_ok X G (c.fact 20 (f := .free "bool") rfl),
  He.free_ok X G (c.fact 21 (f := .free "dict") rfl),
  He.free_ok X G (c.fact 22 (f := .free "int") rfl),
  He.free_ok X G (c.fact 23 (f := .free "isinstance") rfl),
  He.free_ok X G (c.fact 24 (f := .free "len") rfl),
  He.free_ok X G (c.fact 25 (f := .free "list") rfl),
  He.free_ok X G (c.fact 26 (f := .free "range") rfl),
  He.free_ok X G (c.fact 27 (f := .free "sorted") rfl),
  He.free_ok X G (c.fact 28 (f := .free "str") rfl),
  He.free_ok X G (c.fact 29 (f := .free "tuple") rfl),
  He.str_ok X G (c.fact 30 (f := .str "LETTERS" "abcdefghijklmnopqrstuvwxyz") rfl),
  He.int_ok X G (c.fact 31 (f := .int "LONGEST" (12)) rfl),
  He.int_ok X G (c.fact 32 (f := .int "MOST" (40)) rfl)⟩
theorem all (X : K.In h) (G : h.Ns mainGlobals mg) (c : He.SaysD fa fn K) {f : Addr} (hfa : mg ("law" : Str) = some (.ref f)) :
    ∃ fd : FuncData, (∀ (s : Shared) (v : Value), BindsTo s fd ⟨[v], []⟩ [("script", v)]) ∧ ∀ base : Heap, FnOk P w K mg base (L2.CX P w) 7 f fd ["script"] (spLaw K 23 1 d_law) := by
  have h := fac X G c
  obtain ⟨fd__law_next, D__law_next⟩ := c.def_ 0 (d := dd__law_next) rfl
  obtain ⟨fd_is_name, D_is_name⟩ := c.def_ 1 (d := dd_is_name) rfl
  obtain ⟨fd_checked_name, D_checked_name⟩ := c.def_ 2 (d := dd_checked_name) rfl
  obtain ⟨fd_is_number, D_is_number⟩ := c.def_ 3 (d := dd_is_number) rfl
  obtain ⟨fd_checked_number, D_checked_number⟩ := c.def_ 4 (d := dd_checked_number) rfl
  obtain ⟨fd_checked_pledges, D_checked_pledges⟩ := c.def_ 5 (d := dd_checked_pledges) rfl
  obtain ⟨fd_changed, D_changed⟩ := c.def_ 6 (d := dd_changed) rfl
  obtain ⟨fd_checked_joined, D_checked_joined⟩ := c.def_ 7 (d := dd_checked_joined) rfl
  obtain ⟨fd_would, D_would⟩ := c.def_ 8 (d := dd_would) rfl
  obtain ⟨fd_fewest, D_fewest⟩ := c.def_ 9 (d := dd_fewest) rfl
  obtain ⟨fd_most, D_most⟩ := c.def_ 10 (d := dd_most) rfl
  obtain ⟨fd__all_join, D__all_join⟩ := c.def_ 11 (d := dd__all_join) rfl
  obtain ⟨fd_starters, D_starters⟩ := c.def_ 12 (d := dd_starters) rfl
  obtain ⟨fd_steps, D_steps⟩ := c.def_ 13 (d := dd_steps) rfl
  obtain ⟨fd__law_same, D__law_same⟩ := c.def_ 14 (d := dd__law_same) rfl
  obtain ⟨fd_is_kept, D_is_kept⟩ := c.def_ 15 (d := dd_is_kept) rfl
  obtain ⟨fd_counts_kept, D_counts_kept⟩ := c.def_ 16 (d := dd_counts_kept) rfl
  obtain ⟨fd__law_lots, D__law_lots⟩ := c.def_ 17 (d := dd__law_lots) rfl
  obtain ⟨fd_law, D_law⟩ := c.def_ 18 (d := dd_law) rfl
  have e := hfa.symm.trans (He.glo_ok X G (c.fact 18 (f := .glo "law") rfl))
  cases e
  have b := FunD.bindsA (ps := ["script"]) D_law fun _ _ _ _ _ _ us hl => match us, hl with | [_], _ => rfl
  refine ⟨fd_law, fun s v => b s [v] rfl, fun base => ?_⟩
  have c__law_next_2 : FnM P w K mg base 1 "_law_next" 2 .fro m__law_next := fnM_mk D__law_next s__law_next (by decide) (j__law_next h ) (He.glo_ok X G (c.fact 0 (f := .glo "_law_next") rfl)) fun _ _ _ _ _ _ us hl => match us, hl with | [_, _], _ => rfl
  have c_is_name_1 : FnD P w K mg base 1 "is_name" 1 [] .fro r_is_name := fnD_mk0 D_is_name s_is_name (j_is_name h ) (He.glo_ok X G (c.fact 1 (f := .glo "is_name") rfl)) fun _ _ _ _ _ _ us hl => match us, hl with | [_], _ => rfl
  have c_checked_name_1 : FnD P w K mg base 2 "checked_name" 1 [] .fro r_checked_name := fnD_mk0 D_checked_name s_checked_name (j_checked_name h c_is_name_1) (He.glo_ok X G (c.fact 2 (f := .glo "checked_name") rfl)) fun _ _ _ _ _ _ us hl => match us, hl with | [_], _ => rfl
  have c_is_number_3 : FnD P w K mg base 1 "is_number" 3 [] .fro r_is_number := fnD_mk1 D_is_number s_is_number (j_is_number h ) (He.glo_ok X G (c.fact 3 (f := .glo "is_number") rfl)) 3 2 (fun _ => .nil) (by intro z; cases z) rfl fun _ _ _ _ _ _ _ us its h1 h2 => match us, its, h1, h2 with | [_, _, _], [_, _], _, _ => ⟨_, rfl, rfl⟩
  have c_checked_number_3 : FnD P w K mg base 2 "checked_number" 3 [] .fro r_checked_number := fnD_mk1 D_checked_number s_checked_number (j_checked_number h c_is_number_3) (He.glo_ok X G (c.fact 4 (f := .glo "checked_number") rfl)) 3 2 (fun _ => .nil) (by intro z; cases z) rfl fun _ _ _ _ _ _ _ us its h1 h2 => match us, its, h1, h2 with | [_, _, _], [_, _], _, _ => ⟨_, rfl, rfl⟩
  have c_checked_pledges_1 : FnD P w K mg base 3 "checked_pledges" 1 [] .fro r_checked_pledges := fnD_mk0 D_checked_pledges s_checked_pledges (j_checked_pledges h c_checked_name_1 c_checked_number_3) (He.glo_ok X G (c.fact 5 (f := .glo "checked_pledges") rfl)) fun _ _ _ _ _ _ us hl => match us, hl with | [_], _ => rfl
  have c_changed_3 : FnD P w K mg base 4 "changed" 3 [] .fro r_changed := fnD_mk0 D_changed s_changed (j_changed h c_checked_number_3 c_checked_pledges_1) (He.glo_ok X G (c.fact 6 (f := .glo "changed") rfl)) fun _ _ _ _ _ _ us hl => match us, hl with | [_, _, _], _ => rfl
  have c_checked_joined_2 : FnD P w K mg base 4 "checked_joined" 2 [] .fro r_checked_joined := fnD_mk0 D_checked_joined s_checked_joined (j_checked_joined h c_checked_pledges_1) (He.glo_ok X G (c.fact 7 (f := .glo "checked_joined") rfl)) fun _ _ _ _ _ _ us hl => match us, hl with | [_, _], _ => rfl
  have c_would_2 : FnD P w K mg base 5 "would" 2 [] .fro r_would := fnD_mk0 D_would s_would (j_would h c_checked_joined_2 c_checked_pledges_1) (He.glo_ok X G (c.fact 8 (f := .glo "would") rfl)) fun _ _ _ _ _ _ us hl => match us, hl with | [_, _], _ => rfl
  have c_fewest_1 : FnD P w K mg base 6 "fewest" 1 [] .fro r_fewest := fnD_mk0 D_fewest s_fewest (j_fewest h c_would_2) (He.glo_ok X G (c.fact 9 (f := .glo "fewest") rfl)) fun _ _ _ _ _ _ us hl => match us, hl with | [_], _ => rfl
  have c_most_1 : FnD P w K mg base 6 "most" 1 [] .fro r_most := fnD_mk0 D_most s_most (j_most h c_checked_pledges_1 c_would_2) (He.glo_ok X G (c.fact 10 (f := .glo "most") rfl)) fun _ _ _ _ _ _ us hl => match us, hl with | [_], _ => rfl
  have c__all_join_2 : FnD P w K mg base 1 "_all_join" 2 [] .fro r__all_join := fnD_mk0 D__all_join s__all_join (j__all_join h ) (He.glo_ok X G (c.fact 11 (f := .glo "_all_join") rfl)) fun _ _ _ _ _ _ us hl => match us, hl with | [_, _], _ => rfl
  have c_starters_1 : FnD P w K mg base 4 "starters" 1 [] .fro r_starters := fnD_mk0 D_starters s_starters (j_starters h c__all_join_2 c_checked_pledges_1) (He.glo_ok X G (c.fact 12 (f := .glo "starters") rfl)) fun _ _ _ _ _ _ us hl => match us, hl with | [_], _ => rfl
  have c_steps_2 : FnD P w K mg base 6 "steps" 2 [] .fro r_steps := fnD_mk0 D_steps s_steps (j_steps h c_checked_joined_2 c_would_2) (He.glo_ok X G (c.fact 13 (f := .glo "steps") rfl)) fun _ _ _ _ _ _ us hl => match us, hl with | [_, _], _ => rfl
  have c__law_same_2 : FnD P w K mg base 3 "_law_same" 2 [] .fro r__law_same := fnD_rec (df := rr__law_same) (b := d__law_same) D__law_same s__law_same (He.glo_ok X G (c.fact 14 (f := .glo "_law_same") rfl)) (fun _ _ _ _ _ _ us hl => match us, hl with | [_, _], _ => rfl) 0 rfl (fun _ => rfl) (fun i ci => j__law_same h  ci (by omega)) 3
  have c_is_kept_2 : FnD P w K mg base 6 "is_kept" 2 [] .fro r_is_kept := fnD_mk0 D_is_kept s_is_kept (j_is_kept h c_checked_joined_2 c_would_2) (He.glo_ok X G (c.fact 15 (f := .glo "is_kept") rfl)) fun _ _ _ _ _ _ us hl => match us, hl with | [_, _], _ => rfl
  have c_counts_kept_1 : FnD P w K mg base 4 "counts_kept" 1 [] .fro r_counts_kept := fnD_mk0 D_counts_kept s_counts_kept (j_counts_kept h c_checked_pledges_1) (He.glo_ok X G (c.fact 16 (f := .glo "counts_kept") rfl)) fun _ _ _ _ _ _ us hl => match us, hl with | [_], _ => rfl
  have c__law_lots_1 : FnD P w K mg base 1 "_law_lots" 1 [] .fro r__law_lots := fnD_mk0 D__law_lots s__law_lots (j__law_lots h ) (He.glo_ok X G (c.fact 17 (f := .glo "_law_lots") rfl)) fun _ _ _ _ _ _ us hl => match us, hl with | [_], _ => rfl
  exact law_of D_law s_law rfl 1 rfl rfl rfl rfl rfl h.f_list (j_law h c__law_lots_1 c__law_next_2 c__law_same_2 c_changed_3 c_counts_kept_1 c_fewest_1 c_is_kept_2 c_most_1 c_starters_1 c_steps_2 c_would_2)
end
end K41
namespace K41
open PySem PySem.Spec L2 PD PL

/-! ### names and numbers -/
def NMS : List Str := ["a", "b", "c", "d", "e", "f", "g", "zed", "zoe"]
theorem is_name_ok : ∀ x ∈ NMS, r_is_name [.str x] = .ok (.bl true) := by
  intro x hx
  unfold NMS at hx
  simp only [List.mem_cons, List.not_mem_nil, or_false] at hx
  rcases hx with rfl | rfl | rfl | rfl | rfl | rfl | rfl | rfl | rfl <;> kernel_rfl
theorem name_ok {x : Str} (h : x ∈ NMS) : r_checked_name [.str x] = .ok (.str x) := by
  unfold r_checked_name runF startE d_checked_name
  simp [is_name_ok x h, truD]
theorem number_ok {i : Int} (h0 : 0 ≤ i) (h1 : i ≤ 40) : r_checked_number [.int i, .int 0, .int 40] = .ok (.int i) := by
  have : r_is_number [.int i, .int 0, .int 40] = .ok (.bl true) := by
    unfold r_is_number runF startE d_is_number
    simp [isiD, isiB, D.tyName, truD, h0, h1]
  unfold r_checked_number runF startE d_checked_number
  simp [this, truD]
theorem strOk_nms : ∀ x ∈ NMS, PyData.strOk x = true := by
  intro x hx
  unfold NMS at hx
  simp only [List.mem_cons, List.not_mem_nil, or_false] at hx
  rcases hx with rfl | rfl | rfl | rfl | rfl | rfl | rfl | rfl | rfl <;> decide +kernel
/-! ### rows -/
abbrev Rows := List (Str × Int)
def encR (r : Str × Int) : D := .tup [.str r.1, .int r.2]
def encP (p : Rows) : D := .lst (p.map encR)
structure OkP (p : Rows) : Prop where
  names : ∀ r ∈ p, r.1 ∈ NMS
  asc : (nm p).Pairwise sLt
  num : ∀ r ∈ p, 0 ≤ r.2 ∧ r.2 ≤ 40
  len : p.length ≤ 9
theorem OkP.nd {p : Rows} (h : OkP p) : (nm p).Nodup := List.nodup_iff_pairwise_ne.mpr (h.asc.imp fun x => sLt_ne x)
theorem OkP.str {p : Rows} (h : OkP p) : ∀ x ∈ nm p, PyData.strOk x = true := fun x hx => by
  obtain ⟨r, hr, rfl⟩ := List.mem_map.mp hx
  exact strOk_nms _ (h.names r hr)
theorem szl (n : Nat) (h : n ≤ 1000) : n ≤ sizeLine := by rw [szLine]; omega
theorem plv_row {p : Rows} (h : OkP p) : ∀ r ∈ p, plv 1 (encR r) = true := fun r hr => by
  show [D.str r.1, D.int r.2].all (plv 0) = true
  simp only [List.all_cons, List.all_nil, Bool.and_true]
  exact Bool.and_eq_true_iff.mpr ⟨plv_str (strOk_nms _ (h.names r hr)), rfl⟩
theorem sorted_rows {p : Rows} (h : OkP p) : sortedD [.lst (p.map encR)] = some (.lst (p.map encR)) := by
  rw [sorted_eq (canSort_of encR p (fun _ _ => rfl) (plv_row h) (by decide) (.inl fun _ => rfl)), sortL_id]
  rw [List.pairwise_map]
  have := h.asc
  unfold nm at this
  rw [List.pairwise_map] at this
  exact this.imp fun hab => dLe_sp _ _ hab
theorem OkP.cons {r : Str × Int} {p : Rows} (h : OkP (p ++ [r])) : ∀ s ∈ p, s.1 ≠ r.1 := fun s hs => by
  have := h.asc
  unfold nm at this
  rw [List.map_append, List.pairwise_append] at this
  exact sLt_ne (this.2.2 s.1 (List.mem_map_of_mem hs) r.1 (by simp))
theorem OkP.pre {p q r : Rows} (h : OkP p) (e : p = q ++ r) : OkP q := by
  subst e
  refine ⟨fun s hs => h.names s (List.mem_append_left _ hs), ?_, fun s hs => h.num s (List.mem_append_left _ hs), ?_⟩
  · have := h.asc
    unfold nm at this
    rw [List.map_append, List.pairwise_append] at this
    exact this.1
  · have := h.len
    rw [List.length_append] at this
    omega
theorem rows_ok {p : Rows} (h : OkP p) : r_checked_pledges [encP p] = .ok (encP p) := by
  have hl := h.len
  unfold r_checked_pledges runF startE d_checked_pledges encP
  have hF := sFor_inv encR (fi := dSeq (dVar 0)) (g := gTupD 2 (gsCons (gN 2) (gsCons (gN 3) gsNil))) (f := (sSeq (sDrop (dCall r_checked_name [] (dCons (dVar 2) dNil)))
    (sSeq (sIf (unB (dTru (dLc [4] (dSeq (dVar 1)) (gN 4) (dTest (dOp eqD (dOp ixD (dVar 4) (dC (.int 0))) (dVar 2))) (dVar 4)))) sBad sNil)
    (sApp 1 (dTup (dCons (dVar 2) (dCons (dCall r_checked_number [] (dCons (dVar 3) (dCons (dC (.int 0)) (dCons (dC (.int 40)) dNil)))) dNil)))))))
    (ρ := [some (.fro (.lst (p.map encR))), some (.own (.lst [])), none, none, none]) (ρ1 := [some (.fro (.lst (p.map encR))), some (.own (.lst [])), none, none, none]) (xs := p)
    (fun done ρ => ∃ a b, ρ = [some (.fro (.lst (p.map encR))), some (.own (.lst (done.map encR))), a, b, none] ) (by simp) ⟨none, none, rfl⟩ (by
      rintro done r rest ρ e ⟨a, b, rfl⟩
      have hr : r ∈ p := by rw [e]; simp
      have hne : ∀ s ∈ done, s.1 ≠ r.1 := OkP.cons (p := done) (r := r) (by
        have e2 : p = (done ++ [r]) ++ rest := by rw [e, List.append_assoc]; rfl
        exact h.pre e2)
      have hdl : done.length ≤ 9 := by
        have := congrArg List.length e
        rw [List.length_append, List.length_cons] at this
        omega
      have hlc : dLc [4] (dSeq (dVar 1)) (gN 4) (dTest (dOp eqD (dOp ixD (dVar 4) (dC (.int 0))) (dVar 2))) (dVar 4) [some (.fro (.lst (p.map encR))), some (.own (.lst (done.map encR))), some (.fro (.str r.1)), some (.fro (.int r.2)), none] = .ok (.lst []) [some (.fro (.lst (p.map encR))), some (.fro (.lst (done.map encR))), some (.fro (.str r.1)), some (.fro (.int r.2)), none] := by
        have := dLc_pure encR (fun _ => false) (fun _ => .non) (fun s => [some (.fro (.lst (p.map encR))), some (.fro (.lst (done.map encR))), some (.fro (.str r.1)), some (.fro (.int r.2)), some (.fro (encR s))]) (vs := [4]) (fi := dSeq (dVar 1)) (g := gN 4) (ft := dTest (dOp eqD (dOp ixD (dVar 4) (dC (.int 0))) (dVar 2))) (fe := dVar 4) (ρ := [some (.fro (.lst (p.map encR))), some (.own (.lst (done.map encR))), some (.fro (.str r.1)), some (.fro (.int r.2)), none]) (ρ1 := [some (.fro (.lst (p.map encR))), some (.fro (.lst (done.map encR))), some (.fro (.str r.1)), some (.fro (.int r.2)), none]) (xs := done) (by simp) (by simp) (szl _ (by omega)) (by simp) (fun s hs => by
          have h1 : PyData.strOk s.1 = true := strOk_nms _ (h.names s (by rw [e]; exact List.mem_append_left _ hs))
          have h2 : PyData.strOk r.1 = true := strOk_nms _ (h.names r hr)
          simp [encR, ixT0, eqD_str h1 h2, hne s hs]) (fun _ _ z => by cases z) (by simp)
        rw [this]
        simp
      refine ⟨[some (.fro (.lst (p.map encR))), some (.own (.lst (done.map encR))), some (.fro (.str r.1)), some (.fro (.int r.2)), none], [some (.fro (.lst (p.map encR))), some (.own (.lst ((done ++ [r]).map encR))), some (.fro (.str r.1)), some (.fro (.int r.2)), none], ?_, .inl ?_, _, _, rfl⟩
      · simp [encR]
      · have hn := h.num r hr
        have hz : done.length < 16777216 := by omega
        simp [name_ok (h.names r hr), unB, hlc, truD, number_ok hn.1 hn.2, hz, encR])
  obtain ⟨ρ', hF, a, b, rfl⟩ := hF
  have hl' : ¬ (40 < (p.length : Int)) := by omega
  simp [hl', hF, sorted_rows h]
/-! ### names that are joined -/
theorem sub_str {p : Rows} (h : OkP p) {L : List Str} (hL : L.Sublist (nm p)) : ∀ x ∈ L, PyData.strOk x = true := fun x hx => h.str x (hL.subset hx)
theorem sub_len {p : Rows} (h : OkP p) {L : List Str} (hL : L.Sublist (nm p)) : L.length ≤ 9 := by
  have := hL.length_le
  rw [List.length_map] at this
  have := h.len
  omega
theorem joined_ok {p : Rows} (h : OkP p) {L : List Str} (hL : L.Sublist (nm p)) : r_checked_joined [encP p, encS L] = .ok (encS L) := by
  have hl := h.len
  have hls := sub_len h hL
  have hnd := hL.nodup h.nd
  have hlc : dLc [2] (dSeq (dCall r_checked_pledges [] (dCons (dVar 0) dNil))) (gN 2) (fun ρ => .ok true ρ) (dOp ixD (dVar 2) (dC (.int 0))) [some (.fro (encP p)), some (.fro (encS L)), none, none, none] = .ok (encS (nm p)) [some (.fro (encP p)), some (.fro (encS L)), none, none, none] := by
    have := dLc_all encR (fun r => .str r.1) (fun r => [some (.fro (encP p)), some (.fro (encS L)), some (.fro (encR r)), none, none]) (vs := [2]) (fi := dSeq (dCall r_checked_pledges [] (dCons (dVar 0) dNil))) (g := gN 2) (fe := dOp ixD (dVar 2) (dC (.int 0))) (ρ := [some (.fro (encP p)), some (.fro (encS L)), none, none, none]) (ρ1 := [some (.fro (encP p)), some (.fro (encS L)), none, none, none]) (xs := p) (by simp [rows_ok h]; rfl) (by simp) (szl _ (by omega)) (by simp) (by simp [encR, ixT0]) (by simp)
    rw [this]
    unfold encS nm
    rw [List.map_map]
    rfl
  unfold r_checked_joined runF startE d_checked_joined
  have hF := sFor_inv (fun (i : Nat) => D.int (i : Int)) (fi := dRng1 (dCons (dCB lenD (dCons (dVar 1) dNil)) dNil)) (g := gN 4) (f := (sSeq (sIf (dTest (dOp ninD (dOp ixD (dVar 1) (dVar 4)) (dVar 3))) sBad sNil)
    (sIf (dTest (dOp inD (dOp ixD (dVar 1) (dVar 4)) (dSl slD (dVar 1) dNoPart (dPart (dVar 4))))) sBad sNil)))
    (ρ := [some (.fro (encP p)), some (.fro (encS L)), none, some (.fro (encS (nm p))), none]) (ρ1 := [some (.fro (encP p)), some (.fro (encS L)), none, some (.fro (encS (nm p))), none]) (xs := List.range L.length)
    (fun _ ρ => ∃ a, ρ = [some (.fro (encP p)), some (.fro (encS L)), none, some (.fro (encS (nm p))), a]) (by
      have := rng L.length (by omega)
      simp [this, rangeL_eq]) ⟨none, rfl⟩ (by
      rintro done i rest ρ e ⟨a, rfl⟩
      have hi : i < L.length := List.mem_range.mp (by rw [e]; simp)
      have h1 : L[i]? = some L[i] := List.getElem?_eq_getElem hi
      have h2 := sub_str h hL L[i] (List.getElem_mem hi)
      have h3 : L[i] ∈ nm p := hL.subset (List.getElem_mem hi)
      have h4 : L[i] ∉ L.take i := fun z => by
        obtain ⟨j, hj, e⟩ := List.mem_iff_getElem.mp z
        rw [List.getElem_take] at e
        rw [List.length_take] at hj
        have := (List.nodup_iff_pairwise_ne.mp hnd)
        exact List.pairwise_iff_getElem.mp this j i (by omega) hi (by omega) e
      refine ⟨[some (.fro (encP p)), some (.fro (encS L)), none, some (.fro (encS (nm p))), some (.fro (.int (i : Int)))], [some (.fro (encP p)), some (.fro (encS L)), none, some (.fro (encS (nm p))), some (.fro (.int (i : Int)))], by simp, .inl ?_, _, rfl⟩
      simp [ix_strs h1, ninD_strs h2 h.str, h3, sl_strs, inD_strs h2 (fun x hx => sub_str h hL x ((List.take_sublist i L).subset hx)), h4])
  obtain ⟨ρ', hF, a, rfl⟩ := hF
  have hs : sortedD [encS L] = some (encS L) := sorted_strs (sub_str h hL) (List.Pairwise.sublist hL h.asc)
  simp [hlc, hF, hs]
/-! ### who would join -/
theorem would_ok {p : Rows} (h : OkP p) {L : List Str} (hL : L.Sublist (nm p)) : r_would [encP p, encS L] = .ok (encS (W p L)) := by
  have hl := h.len
  unfold r_would runF startE d_would
  have hlc : dLc [3, 4] (dSeq (dCall r_checked_pledges [] (dCons (dVar 0) dNil))) (gTupD 2 (gsCons (gN 3) (gsCons (gN 4) gsNil))) (dTest (dOp geD (dOp subD (dCB lenD (dCons (dVar 2) dNil)) (dIf (dTest (dOp inD (dVar 3) (dVar 2))) (dC (.int 1)) (dC (.int 0)))) (dVar 4))) (dVar 3) [some (.fro (encP p)), some (.fro (encS L)), some (.fro (encS L)), none, none] = .ok (encS (W p L)) [some (.fro (encP p)), some (.fro (encS L)), some (.fro (encS L)), none, none] := by
    have := dLc_pure encR (fun r => decide (r.2 ≤ (L.length : Int) - (if r.1 ∈ L then 1 else 0))) (fun r => .str r.1) (fun r => [some (.fro (encP p)), some (.fro (encS L)), some (.fro (encS L)), some (.fro (.str r.1)), some (.fro (.int r.2))]) (vs := [3, 4]) (fi := dSeq (dCall r_checked_pledges [] (dCons (dVar 0) dNil))) (g := gTupD 2 (gsCons (gN 3) (gsCons (gN 4) gsNil))) (ft := dTest (dOp geD (dOp subD (dCB lenD (dCons (dVar 2) dNil)) (dIf (dTest (dOp inD (dVar 3) (dVar 2))) (dC (.int 1)) (dC (.int 0)))) (dVar 4))) (fe := dVar 3) (ρ := [some (.fro (encP p)), some (.fro (encS L)), some (.fro (encS L)), none, none]) (ρ1 := [some (.fro (encP p)), some (.fro (encS L)), some (.fro (encS L)), none, none]) (xs := p) (by simp [rows_ok h]; rfl) (by simp) (szl _ (by omega)) (by simp [encR]) (fun r hr => by
        have h1 := strOk_nms _ (h.names r hr)
        by_cases hm : r.1 ∈ L
        · simp [inD_strs h1 (sub_str h hL), hm]
        · simp [inD_strs h1 (sub_str h hL), hm]) (by simp) (by simp)
    rw [this]
    unfold encS W
    rw [List.map_map]
    rfl
  simp [joined_ok h hL, hlc]
theorem kept_ok {p : Rows} (h : OkP p) {L : List Str} (hL : L.Sublist (nm p)) : r_is_kept [encP p, encS L] = .ok (.bl (decide (W p L = L))) := by
  unfold r_is_kept runF startE d_is_kept
  simp [joined_ok h hL, would_ok h hL, eqD_strs (sub_str h (W_sub p L)) (sub_str h hL)]
/-! ### the fewest, the most -/
theorem len_nm {p : Rows} (h : OkP p) : (nm p).length ≤ 9 := by rw [List.length_map]; exact h.len
theorem few_ok {p : Rows} (h : OkP p) : ∃ F, r_fewest [encP p] = .ok (encS F) ∧ IsL p F := by
  have hln := len_nm h
  have hw := while_inv (ft := dTest (dOp neD (dVar 2) (dVar 1))) (f := sSeq (sSet 1 (dVar 2)) (sSet 2 (dCall r_would [] (dCons (dVar 0) (dCons (dVar 1) dNil)))))
    (fun n ρ => ∃ L : List Str, ρ = [some (.fro (encP p)), some (.fro (encS L)), some (.fro (encS (W p L)))] ∧ L.Sublist (nm p) ∧ (∀ x, x ∈ L → x ∈ W p L) ∧ (∀ G, G.Sublist (nm p) → (∀ x, x ∈ W p G → x ∈ G) → ∀ x, x ∈ L → x ∈ G) ∧ n = 9 - L.length)
    (fun ρ => ∃ F, IsL p F ∧ ρ = [some (.fro (encP p)), some (.fro (encS F)), some (.fro (encS F))]) (by
      rintro n ρ ⟨L, rfl, h1, h2, h3, rfl⟩
      have s1 := sub_str h h1
      have s2 := sub_str h (W_sub p L)
      by_cases e : W p L = L
      · left
        refine ⟨_, ?_, L, ⟨h1, e, h3⟩, rfl⟩
        rw [e]
        simp [neD_strs s1 s1]
      · right
        have hlt := len_lt h1 (W_sub p L) h.nd h2 (fun z => e z.symm)
        have hle := (W_sub p L).length_le
        refine ⟨[some (.fro (encP p)), some (.fro (encS L)), some (.fro (encS (W p L)))], [some (.fro (encP p)), some (.fro (encS (W p L))), some (.fro (encS (W p (W p L))))], 9 - (W p L).length, ?_, .inl ?_, by omega, W p L, rfl, W_sub p L, ?_, ?_, rfl⟩
        · simp [neD_strs s2 s1, e]
        · simp [would_ok h (W_sub p L)]
        · exact fun x hx => W_mono h1 (W_sub p L) h.nd h2 x hx
        · exact fun G hG hc x hx => hc x (W_mono h1 hG h.nd (h3 G hG hc) x hx)) 9 100 [some (.fro (encP p)), some (.fro (encS [])), some (.fro (encS (W p [])))]
    ⟨[], rfl, List.nil_sublist _, fun x hx => (by cases hx), fun _ _ _ x hx => (by cases hx), rfl⟩ (by omega)
  obtain ⟨ρ', hw, F, hF, rfl⟩ := hw
  refine ⟨F, ?_, hF⟩
  have hn : (D.lst []) = encS [] := rfl
  have hw0 := would_ok h (List.nil_sublist (nm p))
  unfold r_fewest runF startE d_fewest sWhile
  simp [hn, hw0, hw]

theorem most_ok {p : Rows} (h : OkP p) : ∃ F, r_most [encP p] = .ok (encS F) ∧ IsM p F := by
  have hl := h.len
  have hln := len_nm h
  have hw := while_inv (ft := dTest (dOp neD (dVar 3) (dVar 2))) (f := sSeq (sSet 2 (dVar 3)) (sSet 3 (dCall r_would [] (dCons (dVar 0) (dCons (dVar 2) dNil)))))
    (fun n ρ => ∃ L : List Str, ρ = [some (.fro (encP p)), none, some (.fro (encS L)), some (.fro (encS (W p L)))] ∧ L.Sublist (nm p) ∧ (∀ x, x ∈ W p L → x ∈ L) ∧ (∀ G, G.Sublist (nm p) → (∀ x, x ∈ G → x ∈ W p G) → ∀ x, x ∈ G → x ∈ L) ∧ n = L.length)
    (fun ρ => ∃ F, IsM p F ∧ ρ = [some (.fro (encP p)), none, some (.fro (encS F)), some (.fro (encS F))]) (by
      rintro n ρ ⟨L, rfl, h1, h2, h3, rfl⟩
      have s1 := sub_str h h1
      have s2 := sub_str h (W_sub p L)
      by_cases e : W p L = L
      · left
        refine ⟨_, ?_, L, ⟨h1, e, h3⟩, rfl⟩
        rw [e]
        simp [neD_strs s1 s1]
      · right
        have hlt := len_lt (W_sub p L) h1 h.nd h2 e
        refine ⟨[some (.fro (encP p)), none, some (.fro (encS L)), some (.fro (encS (W p L)))], [some (.fro (encP p)), none, some (.fro (encS (W p L))), some (.fro (encS (W p (W p L))))], (W p L).length, ?_, .inl ?_, hlt, W p L, rfl, W_sub p L, ?_, ?_, rfl⟩
        · simp [neD_strs s2 s1, e]
        · simp [would_ok h (W_sub p L)]
        · exact fun x hx => W_mono (W_sub p L) h1 h.nd h2 x hx
        · exact fun G hG hc x hx => W_mono hG h1 h.nd (h3 G hG hc) x (hc x hx)) (nm p).length 100 [some (.fro (encP p)), none, some (.fro (encS (nm p))), some (.fro (encS (W p (nm p))))]
    ⟨nm p, rfl, List.Sublist.refl _, fun x hx => (W_sub p _).subset hx, fun G hG _ x hx => hG.subset hx, rfl⟩ (by omega)
  obtain ⟨ρ', hw, F, hF, rfl⟩ := hw
  refine ⟨F, ?_, hF⟩
  have hlc : dLc [1] (dSeq (dCall r_checked_pledges [] (dCons (dVar 0) dNil))) (gN 1) (fun ρ => .ok true ρ) (dOp ixD (dVar 1) (dC (.int 0))) [some (.fro (encP p)), none, none, none] = .ok (encS (nm p)) [some (.fro (encP p)), none, none, none] := by
    have := dLc_all encR (fun r => .str r.1) (fun r => [some (.fro (encP p)), some (.fro (encR r)), none, none]) (vs := [1]) (fi := dSeq (dCall r_checked_pledges [] (dCons (dVar 0) dNil))) (g := gN 1) (fe := dOp ixD (dVar 1) (dC (.int 0))) (ρ := [some (.fro (encP p)), none, none, none]) (ρ1 := [some (.fro (encP p)), none, none, none]) (xs := p) (by simp [rows_ok h]; rfl) (by simp) (szl _ (by omega)) (by simp) (by simp [encR, ixT0]) (by simp)
    rw [this]
    unfold encS nm
    rw [List.map_map]
    rfl
  have hw0 := would_ok h (List.Sublist.refl (nm p))
  unfold r_most runF startE d_most sWhile
  simp [hlc, hw0, hw]
/-! ### how many can be kept -/
def encN (l : List Nat) : D := .lst (l.map fun (m : Nat) => D.int (m : Int))
theorem counts_ok {p : Rows} (h : OkP p) : r_counts_kept [encP p] = .ok (encN (counts p)) := by
  have hl := h.len
  have hlc : ∀ (c : Int) (a b : Option Sl) (own : D) (cond : PD.Env → Out Bool) (z : Option Sl), (∀ r ∈ p, cond [some (.fro (encP p)), some (.fro (encP p)), some (.own own), z, some (.fro (.str r.1)), some (.fro (.int r.2)), a, b] = .ok (decide (r.2 ≤ c)) [some (.fro (encP p)), some (.fro (encP p)), some (.own own), z, some (.fro (.str r.1)), some (.fro (.int r.2)), a, b]) →
      dLc [4, 5] (dSeq (dVar 1)) (gTupD 2 (gsCons (gN 4) (gsCons (gN 5) gsNil))) cond (dVar 4) [some (.fro (encP p)), some (.fro (encP p)), some (.own own), z, none, none, a, b] = .ok (encS ((p.filter fun r => decide (r.2 ≤ c)).map (·.1))) [some (.fro (encP p)), some (.fro (encP p)), some (.own own), z, none, none, a, b] := by
    intro c a b own cond z hc
    have := dLc_pure encR (fun r => decide (r.2 ≤ c)) (fun r => .str r.1) (fun r => [some (.fro (encP p)), some (.fro (encP p)), some (.own own), z, some (.fro (.str r.1)), some (.fro (.int r.2)), a, b]) (vs := [4, 5]) (fi := dSeq (dVar 1)) (g := gTupD 2 (gsCons (gN 4) (gsCons (gN 5) gsNil))) (ft := cond) (fe := dVar 4) (ρ := [some (.fro (encP p)), some (.fro (encP p)), some (.own own), z, none, none, a, b]) (ρ1 := [some (.fro (encP p)), some (.fro (encP p)), some (.own own), z, none, none, a, b]) (xs := p) (by simp; rfl) (by simp) (szl _ (by omega)) (by simp [encR]) hc (by simp) (by simp)
    rw [this]
    unfold encS
    rw [List.map_map]
    rfl
  unfold r_counts_kept runF startE d_counts_kept
  have hF := sFor_inv (fun (i : Nat) => D.int (i : Int)) (fi := dRng1 (dCons (dOp addD (dCB lenD (dCons (dVar 1) dNil)) (dC (.int 1))) dNil)) (g := gN 3) (f := (sSeq (sSet 6 (dLc [4, 5] (dSeq (dVar 1)) (gTupD 2 (gsCons (gN 4) (gsCons (gN 5) gsNil))) (dTest (dOp leD (dVar 5) (dOp subD (dVar 3) (dC (.int 1))))) (dVar 4)))
    (sSeq (sSet 7 (dLc [4, 5] (dSeq (dVar 1)) (gTupD 2 (gsCons (gN 4) (gsCons (gN 5) gsNil))) (dTest (dOp leD (dVar 5) (dVar 3))) (dVar 4)))
    (sIf (dAndT (dTest (dOp eqD (dCB lenD (dCons (dVar 6) dNil)) (dVar 3))) (dTest (dOp eqD (dCB lenD (dCons (dVar 7) dNil)) (dVar 3)))) (sApp 2 (dVar 3)) sNil))))
    (ρ := [some (.fro (encP p)), some (.fro (encP p)), some (.own (.lst [])), none, none, none, none, none]) (ρ1 := [some (.fro (encP p)), some (.fro (encP p)), some (.own (.lst [])), none, none, none, none, none]) (xs := List.range (p.length + 1))
    (fun done ρ => ∃ z a b, ρ = [some (.fro (encP p)), some (.fro (encP p)), some (.own (encN (done.filter (kept p)))), z, none, none, a, b]) (by
      have := rng (p.length + 1) (by omega)
      have e : lenD [encP p] = some (.int p.length) := by
        show some (D.int ((p.map encR).length : Int)) = _
        rw [List.length_map]
      have e2 : ((p.length : Int) + 1).toNat = p.length + 1 := by omega
      have e3 : -4611686018427387904 ≤ (p.length : Int) + 1 ∧ (p.length : Int) + 1 < 4611686018427387904 := ⟨by omega, by omega⟩
      simp [e, e3, e2, rangeL_eq]) ⟨none, none, none, rfl⟩ (by
      rintro done m rest ρ e ⟨z, a, b, rfl⟩
      have hm : m < p.length + 1 := List.mem_range.mp (by rw [e]; simp)
      have hd : done.length ≤ 10 := by
        have := congrArg List.length e
        rw [List.length_append, List.length_cons, List.length_range] at this
        omega
      have hd2 : (done.filter (kept p)).length < 16777216 := by
        have := List.length_filter_le (kept p) done
        omega
      have c1 := hlc ((m : Int) - 1) a b (encN (done.filter (kept p))) (dTest (dOp leD (dVar 5) (dOp subD (dVar 3) (dC (.int 1))))) (some (.fro (.int (m : Int)))) (by simp)
      have c2 := hlc (m : Int) (some (.fro (encS ((p.filter fun r => decide (r.2 ≤ (m : Int) - 1)).map (·.1))))) b (encN (done.filter (kept p))) (dTest (dOp leD (dVar 5) (dVar 3))) (some (.fro (.int (m : Int)))) (by simp)
      refine ⟨[some (.fro (encP p)), some (.fro (encP p)), some (.own (encN (done.filter (kept p)))), some (.fro (.int (m : Int))), none, none, a, b], [some (.fro (encP p)), some (.fro (encP p)), some (.own (encN ((done ++ [m]).filter (kept p)))), some (.fro (.int (m : Int))), none, none, some (.fro (encS ((p.filter fun r => decide (r.2 ≤ (m : Int) - 1)).map (·.1)))), some (.fro (encS ((p.filter fun r => decide (r.2 ≤ (m : Int))).map (·.1))))], by simp, .inl ?_, _, _, _, rfl⟩
      rw [List.filter_append]
      unfold encN at c1 c2
      by_cases k1 : (cnt p ((m : Int) - 1) : Int) = m
      · by_cases k2 : (cnt p (m : Int) : Int) = m
        · have hk : kept p m = true := by unfold kept; simp [k1, k2]
          unfold cnt at k1 k2
          simp [c1, c2, k1, k2, hk, encN, hd2]
        · have hk : kept p m = false := by unfold kept; simp [k2]
          unfold cnt at k1 k2
          simp [c1, c2, k1, k2, hk, encN]
      · have hk : kept p m = false := by unfold kept; simp [k1]
        unfold cnt at k1
        simp [c1, c2, k1, hk, encN])
  obtain ⟨ρ', hF, z, a, b, rfl⟩ := hF
  simp [rows_ok h, hF]
  rfl
/-! ### rounds -/
theorem ix_last {l : List D} {x : D} : ixD (.lst (l ++ [x])) (.int (-1)) = some x := by
  refine ixD_lst ?_
  unfold L2.atI L2.ixN
  rw [if_neg (by omega), if_pos (by rw [List.length_append]; simp only [List.length_cons, List.length_nil]; omega)]
  have e : ((-1 : Int) + ((l ++ [x]).length : Int)).toNat = l.length := by rw [List.length_append]; simp only [List.length_cons, List.length_nil]; omega
  show (l ++ [x])[_]? = _
  rw [e]
  simp
theorem in_lots {p : Rows} (h : OkP p) {ch : List (List Str)} {t : List Str} (hc : ∀ c ∈ ch, c.Sublist (nm p)) (ht : t.Sublist (nm p)) : inD (encS t) (.lst (ch.map encS)) = some (.bl (decide (t ∈ ch))) := by
  unfold inD
  have hp : ∀ e ∈ ch.map encS, plv 1 e = true := fun e he => by
    obtain ⟨c, hcm, rfl⟩ := List.mem_map.mp he
    exact plv_strs (sub_str h (hc c hcm))
  rw [inB_pl (n := 1) (m := 2) (plv_strs (sub_str h ht)) (plv_map fun c hcm => plv_strs (sub_str h (hc c hcm)))]
  have : ((ch.map encS).any fun z => eqB z (encS t)) = decide (t ∈ ch) := by
    rw [Bool.eq_iff_iff, any_pl (n := 1) (m := 1) (plv_strs (sub_str h ht)) hp, decide_eq_true_iff, List.mem_map]
    exact ⟨fun ⟨c, hcm, e⟩ => by rw [← map_str_inj (D.lst.inj e)]; exact hcm, fun hm => ⟨t, hm, rfl⟩⟩
  rw [this]
  rfl
theorem steps_gen {p : Rows} (h : OkP p) (R : List Str → List Str → Prop) (μ : List Str → Nat) (P : List Str → Prop)
    (hmono : ∀ a b, a.Sublist (nm p) → b.Sublist (nm p) → R a b → R (W p a) (W p b)) (htr : ∀ a b c, R a b → R b c → R a c)
    (hst : ∀ a b, a.Sublist (nm p) → b.Sublist (nm p) → R a b → a ≠ b → μ b < μ a) (han : ∀ a b, a.Sublist (nm p) → b.Sublist (nm p) → R a b → R b a → a = b) (hrf : ∀ a, R a a)
    (hP : ∀ c, c.Sublist (nm p) → P c → P (W p c)) {L : List Str} (hL : L.Sublist (nm p)) (h0 : R L (W p L)) (hμ : μ L ≤ 9) (hPL : P L) :
    ∃ (front : List (List Str)) (last : List Str), r_steps [encP p, encS L] = .ok (.lst ((front ++ [last]).map encS)) ∧ W p last = last ∧ P last ∧ last.Sublist (nm p) ∧ (front ++ [last]).Pairwise R ∧ (∀ c ∈ front ++ [last], c.Sublist (nm p)) ∧ (front ++ [last]).head? = some L ∧ front.length ≤ 9 := by
  have hw := while_inv (ft := dTest (dOp neD (dVar 3) (dOp ixD (dTop 2) (dUn negD (dC (.int 1)))))) (f := (sSeq (sIf (dOrT (dTest (dOp gtD (dCB lenD (dCons (dTop 2) dNil)) (dC (.int 80)))) (dTest (dOp inD (dVar 3) (dTop 2)))) sBad sNil)
    (sSeq (sApp 2 (dVar 3)) (sSet 3 (dCall r_would [] (dCons (dVar 0) (dCons (dVar 3) dNil)))))))
    (fun n ρ => ∃ (front : List (List Str)) (last : List Str), ρ = [some (.fro (encP p)), some (.fro (encS L)), some (.own (.lst ((front ++ [last]).map encS))), some (.fro (encS (W p last)))] ∧ R last (W p last) ∧ P last ∧ (front ++ [last]).Pairwise R ∧ (∀ c ∈ front ++ [last], c.Sublist (nm p)) ∧ (front ++ [last]).head? = some L ∧ front.length + μ last ≤ 9 ∧ n = μ last)
    (fun ρ => ∃ (front : List (List Str)) (last : List Str), ρ = [some (.fro (encP p)), some (.fro (encS L)), some (.own (.lst ((front ++ [last]).map encS))), some (.fro (encS (W p last)))] ∧ W p last = last ∧ P last ∧ (front ++ [last]).Pairwise R ∧ (∀ c ∈ front ++ [last], c.Sublist (nm p)) ∧ (front ++ [last]).head? = some L ∧ front.length ≤ 9) (by
      rintro n ρ ⟨front, last, rfl, h1, h2, h3, h4, h5, h6, rfl⟩
      have hl : last.Sublist (nm p) := h4 last (by simp)
      have s1 := sub_str h hl
      have s2 := sub_str h (W_sub p last)
      have hix : ixD (.lst ((front ++ [last]).map encS)) (.int (-1)) = some (encS last) := by
        rw [List.map_append]
        exact ix_last
      by_cases e : W p last = last
      · left
        refine ⟨[some (.fro (encP p)), some (.fro (encS L)), some (.own (.lst ((front ++ [last]).map encS))), some (.fro (encS (W p last)))], ?_, front, last, rfl, e, h2, h3, h4, h5, by omega⟩
        simp only [e_Test, e_Op, e_Var, e_Top, e_Un, e_C, e_bok, e_lift, at2, at3, negD_int, hix, neD_strs s1 s1, e]
        simp
      · right
        have hlt := hst last (W p last) hl (W_sub p last) h1 (fun z => e z.symm)
        have hnin : W p last ∉ front ++ [last] := by
          intro z
          rcases List.mem_append.mp z with z | z
          · rw [List.pairwise_append] at h3
            exact e (han _ _ (W_sub p last) hl (h3.2.2 _ z last (by simp)) h1)
          · rw [List.mem_singleton] at z
            exact e z
        have hlen : ¬ (80 < (((front ++ [last]).map encS).length : Int)) := by
          rw [List.length_map, List.length_append]
          simp only [List.length_cons, List.length_nil]
          omega
        have hlen2 : ((front ++ [last]).map encS).length < 16777216 := by
          rw [List.length_map, List.length_append]
          simp only [List.length_cons, List.length_nil]
          omega
        refine ⟨[some (.fro (encP p)), some (.fro (encS L)), some (.own (.lst ((front ++ [last]).map encS))), some (.fro (encS (W p last)))], [some (.fro (encP p)), some (.fro (encS L)), some (.own (.lst (((front ++ [last]) ++ [W p last]).map encS))), some (.fro (encS (W p (W p last))))], μ (W p last), ?_, .inl ?_, hlt, front ++ [last], W p last, rfl, ?_, hP _ hl h2, ?_, ?_, ?_, ?_, rfl⟩
        · simp only [e_Test, e_Op, e_Var, e_Top, e_Un, e_C, e_bok, e_lift, at2, at3, negD_int, hix, neD_strs s2 s1]
          simp [e]
        · have hin := in_lots h h4 (W_sub p last)
          simp only [e_sSeq, e_sIf, e_OrT, e_Test, e_Op, e_CB, e_Cons, e_Nil, e_Top, e_Var, e_C, e_bok, e_lift, at0, at2, at3, len_lst, gtD_int, hlen, hin, hnin, decide_false, e_sE_ok, Bool.false_eq_true, if_false, e_sNil, e_sApp, e_slotD, e_putSl, szLine, hlen2, if_true, set2, set3, e_sSet, e_Call, List.append_nil, would_ok h (W_sub p last)]
          simp
        · exact hmono _ _ hl (W_sub p last) h1
        · rw [List.pairwise_append]
          refine ⟨h3, by simp, fun a ha b hb => ?_⟩
          rw [List.mem_singleton] at hb
          subst hb
          rcases List.mem_append.mp ha with z | z
          · rw [List.pairwise_append] at h3
            exact htr _ _ _ (h3.2.2 a z last (by simp)) h1
          · rw [List.mem_singleton] at z
            subst z
            exact h1
        · intro c hc
          rcases List.mem_append.mp hc with z | z
          · exact h4 c z
          · rw [List.mem_singleton] at z
            subst z
            exact W_sub p last
        · rw [List.head?_append, h5]
          rfl
        · rw [List.length_append]
          simp only [List.length_cons, List.length_nil]
          omega) (μ L) 100 [some (.fro (encP p)), some (.fro (encS L)), some (.own (.lst (([] ++ [L]).map encS))), some (.fro (encS (W p L)))]
    ⟨[], L, rfl, h0, hPL, by simp, by simpa using hL, rfl, by simpa using hμ, rfl⟩ (by omega)
  obtain ⟨ρ', hw, front, last, rfl, a1, a2, a3, a4, a5, a6⟩ := hw
  refine ⟨front, last, ?_, a1, a2, a4 last (by simp), a3, a4, a5, a6⟩
  have hix : ixD (.lst [encS L]) (.int 0) = some (encS L) := ix0
  unfold r_steps runF startE d_steps sWhile
  simp [joined_ok h hL, would_ok h hL, hix]
  have hw' := hw
  simp only [List.nil_append, List.map_cons, List.map_nil] at hw'
  rw [hw']
  simp
/-! ### all join -/
theorem allj_ok {p : Rows} (h : OkP p) {T : List Str} (hT : T.Nodup) (hs : ∀ x ∈ T, x ∈ nm p) : ∃ b, r__all_join [encP p, encS T] = .ok (.bl b) ∧ (b = true ↔ AJ p T) := by
  have hl := h.len
  have hstr : ∀ x ∈ T, PyData.strOk x = true := fun x hx => h.str x (hs x hx)
  obtain ⟨m, hm1, hm2, hm3⟩ := sortL_map D.int ((PL.left p T).map (·.2))
  have hm4 : m.Pairwise (· ≤ ·) := hm3.imp fun hab => by rw [dLe_int] at hab; exact of_decide_eq_true hab
  have hml : m.length ≤ 9 := by
    rw [hm1.length_eq, List.length_map]
    have : (PL.left p T).length ≤ p.length := List.length_filter_le ..
    omega
  have hlc1 : dLc [2, 3] (dSeq (dVar 0)) (gTupD 2 (gsCons (gN 2) (gsCons (gN 3) gsNil))) (dTest (dOp ninD (dVar 2) (dVar 1))) (dVar 3) [some (.fro (encP p)), some (.fro (encS T)), none, none, none, none] = .ok (.lst (((PL.left p T).map (·.2)).map D.int)) [some (.fro (encP p)), some (.fro (encS T)), none, none, none, none] := by
    have := dLc_pure encR (fun r => decide (r.1 ∉ T)) (fun r => .int r.2) (fun r => [some (.fro (encP p)), some (.fro (encS T)), some (.fro (.str r.1)), some (.fro (.int r.2)), none, none]) (vs := [2, 3]) (fi := dSeq (dVar 0)) (g := gTupD 2 (gsCons (gN 2) (gsCons (gN 3) gsNil))) (ft := dTest (dOp ninD (dVar 2) (dVar 1))) (fe := dVar 3) (ρ := [some (.fro (encP p)), some (.fro (encS T)), none, none, none, none]) (ρ1 := [some (.fro (encP p)), some (.fro (encS T)), none, none, none, none]) (xs := p) (by simp; rfl) (by simp) (szl _ (by omega)) (by simp [encR]) (fun r hr => by
      simp [ninD_strs (strOk_nms _ (h.names r hr)) hstr]) (by simp) (by simp)
    rw [this, List.map_map]
    rfl
  have hsrt : sortedD [.lst (((PL.left p T).map (·.2)).map D.int)] = some (.lst (m.map D.int)) := by rw [sorted_eq (canSort_int _), hm2]
  have hlc2 : dLc [5] (dRng1 (dCons (dCB lenD (dCons (dVar 4) dNil)) dNil)) (gN 5) (dTest (dOp ltD (dOp addD (dCB lenD (dCons (dVar 1) dNil)) (dVar 5)) (dOp ixD (dVar 4) (dVar 5)))) (dVar 5) [some (.fro (encP p)), some (.fro (encS T)), none, none, some (.fro (.lst (m.map D.int))), none] =
      .ok (.lst (((List.range m.length).filter fun (i : Nat) => decide ((T.length : Int) + (i : Int) < m.getD i 0)).map fun (i : Nat) => .int (i : Int))) [some (.fro (encP p)), some (.fro (encS T)), none, none, some (.fro (.lst (m.map D.int))), none] := by
    have hr := rng m.length (by omega)
    exact dLc_pure (fun (i : Nat) => D.int (i : Int)) (fun (i : Nat) => decide ((T.length : Int) + (i : Int) < m.getD i 0)) (fun (i : Nat) => .int (i : Int)) (fun (i : Nat) => [some (.fro (encP p)), some (.fro (encS T)), none, none, some (.fro (.lst (m.map D.int))), some (.fro (.int (i : Int)))]) (by simp [hr, rangeL_eq]) (by simp) (by rw [List.length_range]; exact szl _ (by omega)) (by simp) (fun i hi => by
      have hi' : i < m.length := List.mem_range.mp hi
      have hx : ixD (.lst (m.map D.int)) (.int (i : Int)) = some (.int m[i]) := ixD_nat (by rw [List.getElem?_map, List.getElem?_eq_getElem hi']; rfl)
      have hg : m.getD i 0 = m[i] := by simp [hi']
      rw [hg]
      simp [hx]) (by simp) (by simp)
  refine ⟨((List.range m.length).filter fun (i : Nat) => decide ((T.length : Int) + (i : Int) < m.getD i 0)).isEmpty, ?_, ?_⟩
  · unfold r__all_join runF startE d__all_join
    generalize (PL.left p T).map (·.2) = ms at hlc1 hsrt
    simp [hlc1, hsrt, hlc2, truD]
  · rw [← aj_sorted h.nd hT hs hm1 hm4]
    rw [List.isEmpty_iff, List.filter_eq_nil_iff]
    constructor
    · intro hh i hi
      have := hh i (List.mem_range.mpr hi)
      rw [decide_eq_true_iff] at this
      have hg : m.getD i 0 = m[i] := by simp [hi]
      rw [hg] at this
      omega
    · intro hh i hi
      have hi' := List.mem_range.mp hi
      have := hh i hi'
      rw [decide_eq_true_iff]
      have hg : m.getD i 0 = m[i] := by simp [hi']
      rw [hg]
      omega
end K41
namespace K41
open PySem PySem.Spec L2 PD PL

/-! ### those who are won over -/
def encQ (a : Int × Str) : D := .tup [.int a.1, .str a.2]
theorem st_ok {p : Rows} (h : OkP p) : ∃ won, r_starters [encP p] = .ok (encS won) ∧ St p won := by
  have hl := h.len
  obtain ⟨q, hq1, hq2, hq3⟩ := sortL_map encQ (p.map fun r => (-r.2, r.1))
  have hq4 : q.Pairwise fun a b => a.1 ≤ b.1 := hq3.imp fun hab => dLe_ip hab
  have hqs : ∀ a ∈ q, a.2 ∈ NMS := fun a ha => by
    obtain ⟨r, hr, rfl⟩ := List.mem_map.mp (hq1.mem_iff.mp ha)
    exact h.names r hr
  have hql : q.length = p.length := by have := hq1.length_eq; rwa [List.length_map] at this
  have hsrt : sortedD [.lst ((p.map fun r => (-r.2, r.1)).map encQ)] = some (.lst (q.map encQ)) := by
    rw [sorted_eq (canSort_of encQ _ (n := 1) (fun _ _ => rfl) (fun a ha => by
      obtain ⟨r, hr, rfl⟩ := List.mem_map.mp ha
      show [D.int _, D.str _].all (plv 0) = true
      simp only [List.all_cons, List.all_nil, Bool.and_true]
      exact Bool.and_eq_true_iff.mpr ⟨rfl, plv_str (strOk_nms _ (h.names r hr))⟩) (by decide) (.inl fun _ => rfl)), hq2]
  have hpn : (q.map (·.2)).Perm (nm p) := by
    have := hq1.map (·.2)
    rw [List.map_map] at this
    exact this
  have hqn : (q.map (·.2)).Nodup := hpn.nodup_iff.mpr h.nd
  have hTn : ∀ j, ((q.map (·.2)).take j).Nodup := fun j => List.Nodup.sublist (List.take_sublist _ _) hqn
  have hTs : ∀ j, ∀ x ∈ (q.map (·.2)).take j, x ∈ nm p := fun j x hx => hpn.mem_iff.mp ((List.take_sublist _ _).subset hx)
  have hlc1 : dLc [2, 3] (dSeq (dVar 1)) (gTupD 2 (gsCons (gN 2) (gsCons (gN 3) gsNil))) (fun ρ => .ok true ρ) (dTup (dCons (dUn negD (dVar 3)) (dCons (dVar 2) dNil))) [some (.fro (encP p)), some (.fro (encP p)), none, none, none, none] = .ok (.lst ((p.map fun r => (-r.2, r.1)).map encQ)) [some (.fro (encP p)), some (.fro (encP p)), none, none, none, none] := by
    have := dLc_all encR (fun r => encQ (-r.2, r.1)) (fun r => [some (.fro (encP p)), some (.fro (encP p)), some (.fro (.str r.1)), some (.fro (.int r.2)), none, none]) (vs := [2, 3]) (fi := dSeq (dVar 1)) (g := gTupD 2 (gsCons (gN 2) (gsCons (gN 3) gsNil))) (fe := dTup (dCons (dUn negD (dVar 3)) (dCons (dVar 2) dNil))) (ρ := [some (.fro (encP p)), some (.fro (encP p)), none, none, none, none]) (ρ1 := [some (.fro (encP p)), some (.fro (encP p)), none, none, none, none]) (xs := p) (by simp; rfl) (by simp) (szl _ (by omega)) (by simp [encR]) (by simp [encQ]) (by simp)
    rw [this, List.map_map]
    rfl
  generalize hms : (p.map fun r => (-r.2, r.1)).map encQ = ms at hlc1 hsrt
  have hlc2 : dLc [3, 2] (dSeq (dCB sortedD (dCons (dLc [2, 3] (dSeq (dVar 1)) (gTupD 2 (gsCons (gN 2) (gsCons (gN 3) gsNil))) (fun ρ => .ok true ρ) (dTup (dCons (dUn negD (dVar 3)) (dCons (dVar 2) dNil)))) dNil))) (gTupD 2 (gsCons (gN 3) (gsCons (gN 2) gsNil))) (fun ρ => .ok true ρ) (dVar 2) [some (.fro (encP p)), some (.fro (encP p)), none, none, none, none] = .ok (encS (q.map (·.2))) [some (.fro (encP p)), some (.fro (encP p)), none, none, none, none] := by
    have := dLc_all encQ (fun a => .str a.2) (fun a => [some (.fro (encP p)), some (.fro (encP p)), some (.fro (.str a.2)), some (.fro (.int a.1)), none, none]) (vs := [3, 2]) (fi := dSeq (dCB sortedD (dCons (dLc [2, 3] (dSeq (dVar 1)) (gTupD 2 (gsCons (gN 2) (gsCons (gN 3) gsNil))) (fun ρ => .ok true ρ) (dTup (dCons (dUn negD (dVar 3)) (dCons (dVar 2) dNil)))) dNil))) (g := gTupD 2 (gsCons (gN 3) (gsCons (gN 2) gsNil))) (fe := dVar 2) (ρ := [some (.fro (encP p)), some (.fro (encP p)), none, none, none, none]) (ρ1 := [some (.fro (encP p)), some (.fro (encP p)), none, none, none, none]) (xs := q) (by simp [hlc1, hsrt]) (by simp) (szl _ (by omega)) (by simp [encQ]) (by simp) (by simp)
    rw [this]
    unfold encS
    rw [List.map_map]
    rfl
  have hw := while_inv (ft := dNotT (dTru (dCall r__all_join [] (dCons (dVar 1) (dCons (dSl slD (dVar 4) dNoPart (dPart (dVar 5))) dNil))))) (f := sSet 5 (dOp addD (dVar 5) (dC (.int 1))))
    (fun n ρ => ∃ k : Nat, k ≤ p.length ∧ ρ = [some (.fro (encP p)), some (.fro (encP p)), none, none, some (.fro (encS (q.map (·.2)))), some (.fro (.int (k : Int)))] ∧ (k = 0 ∨ ¬ AJ p ((q.map (·.2)).take (k - 1))) ∧ n = p.length - k)
    (fun ρ => ∃ k : Nat, k ≤ p.length ∧ ρ = [some (.fro (encP p)), some (.fro (encP p)), none, none, some (.fro (encS (q.map (·.2)))), some (.fro (.int (k : Int)))] ∧ (k = 0 ∨ ¬ AJ p ((q.map (·.2)).take (k - 1))) ∧ AJ p ((q.map (·.2)).take k)) (by
      rintro n ρ ⟨k, hk, rfl, h1, rfl⟩
      obtain ⟨b, hb, hb2⟩ := allj_ok h (hTn k) (hTs k)
      cases b with
      | true =>
        left
        refine ⟨_, ?_, k, hk, rfl, h1, hb2.mp rfl⟩
        simp [sl_strs, hb, truD]
      | false =>
        right
        have hna : ¬ AJ p ((q.map (·.2)).take k) := fun z => by have := hb2.mpr z; cases this
        have hkl : k < p.length := by
          apply Classical.byContradiction
          intro hge
          refine hna fun c h0 hc => ?_
          have : ((q.map (·.2)).take k).length = p.length := by rw [List.length_take, List.length_map]; omega
          rw [this]
          omega
        refine ⟨[some (.fro (encP p)), some (.fro (encP p)), none, none, some (.fro (encS (q.map (·.2)))), some (.fro (.int (k : Int)))], [some (.fro (encP p)), some (.fro (encP p)), none, none, some (.fro (encS (q.map (·.2)))), some (.fro (.int ((k + 1 : Nat) : Int)))], p.length - (k + 1), ?_, .inl ?_, by omega, k + 1, hkl, rfl, .inr hna, rfl⟩
        · simp [sl_strs, hb, truD]
        · simp) p.length 100 [some (.fro (encP p)), some (.fro (encP p)), none, none, some (.fro (encS (q.map (·.2)))), some (.fro (.int ((0 : Nat) : Int)))]
    ⟨0, by omega, rfl, .inl rfl, rfl⟩ (by omega)
  obtain ⟨ρ', hw, k, hk, rfl, h1, h2⟩ := hw
  obtain ⟨won, hw1, hw2, _⟩ := sortL_map D.str ((q.map (·.2)).take k)
  have hfin : sortedD [encS ((q.map (·.2)).take k)] = some (encS won) := by
    unfold encS
    rw [sorted_eq (canSort_str _ fun x hx => h.str x (hTs k x hx)), hw2]
  refine ⟨won, ?_, st_of h.nd hq1 hq4 hk h2 h1 hw1⟩
  unfold r_starters runF startE d_starters sWhile
  have hw' := hw
  simp only [Int.natCast_zero] at hw'
  generalize hqq : (q.map (·.2)) = oo at *
  simp [rows_ok h, hlc2, hw', sl_strs, hfin]
/-! ### a number changed -/
def setN (p : Rows) (one : Str) (v : Int) : Rows := p.map fun r => (r.1, if r.1 = one then v else r.2)
theorem nm_setN (p : Rows) (one : Str) (v : Int) : nm (setN p one v) = nm p := by
  unfold nm setN
  rw [List.map_map]
  rfl
theorem OkP.setN {p : Rows} (h : OkP p) (one : Str) {v : Int} (h0 : 0 ≤ v) (h1 : v ≤ 40) : OkP (setN p one v) := by
  refine ⟨fun r hr => ?_, by rw [nm_setN]; exact h.asc, fun r hr => ?_, by unfold K41.setN; rw [List.length_map]; exact h.len⟩
  · obtain ⟨s, hs, rfl⟩ := List.mem_map.mp hr
    exact h.names s hs
  · obtain ⟨s, hs, rfl⟩ := List.mem_map.mp hr
    dsimp only
    split
    · exact ⟨h0, h1⟩
    · exact h.num s hs
theorem changed_ok {p : Rows} (h : OkP p) {one : Str} (ho : one ∈ nm p) {v : Int} (h0 : 0 ≤ v) (h1 : v ≤ 40) : r_changed [encP p, .str one, .int v] = .ok (encP (setN p one v)) := by
  have hl := h.len
  have hos := h.str one ho
  have hlc1 : dLc [4] (dSeq (dVar 3)) (gN 4) (fun ρ => .ok true ρ) (dOp ixD (dVar 4) (dC (.int 0))) [some (.fro (encP p)), some (.fro (.str one)), some (.fro (.int v)), some (.fro (encP p)), none, none, none] = .ok (encS (nm p)) [some (.fro (encP p)), some (.fro (.str one)), some (.fro (.int v)), some (.fro (encP p)), none, none, none] := by
    have := dLc_all encR (fun r => .str r.1) (fun r => [some (.fro (encP p)), some (.fro (.str one)), some (.fro (.int v)), some (.fro (encP p)), some (.fro (encR r)), none, none]) (vs := [4]) (fi := dSeq (dVar 3)) (g := gN 4) (fe := dOp ixD (dVar 4) (dC (.int 0))) (ρ := [some (.fro (encP p)), some (.fro (.str one)), some (.fro (.int v)), some (.fro (encP p)), none, none, none]) (ρ1 := [some (.fro (encP p)), some (.fro (.str one)), some (.fro (.int v)), some (.fro (encP p)), none, none, none]) (xs := p) (by simp; rfl) (by simp) (szl _ (by omega)) (by simp) (by simp [encR, ixT0]) (by simp)
    rw [this]
    unfold encS nm
    rw [List.map_map]
    rfl
  have hlc2 : dLc [5, 6] (dSeq (dVar 3)) (gTupD 2 (gsCons (gN 5) (gsCons (gN 6) gsNil))) (fun ρ => .ok true ρ) (dTup (dCons (dVar 5) (dCons (dIf (dTest (dOp eqD (dVar 5) (dVar 1))) (dVar 2) (dVar 6)) dNil))) [some (.fro (encP p)), some (.fro (.str one)), some (.fro (.int v)), some (.fro (encP p)), none, none, none] = .ok (encP (setN p one v)) [some (.fro (encP p)), some (.fro (.str one)), some (.fro (.int v)), some (.fro (encP p)), none, none, none] := by
    have := dLc_all encR (fun r => encR (r.1, if r.1 = one then v else r.2)) (fun r => [some (.fro (encP p)), some (.fro (.str one)), some (.fro (.int v)), some (.fro (encP p)), none, some (.fro (.str r.1)), some (.fro (.int r.2))]) (vs := [5, 6]) (fi := dSeq (dVar 3)) (g := gTupD 2 (gsCons (gN 5) (gsCons (gN 6) gsNil))) (fe := dTup (dCons (dVar 5) (dCons (dIf (dTest (dOp eqD (dVar 5) (dVar 1))) (dVar 2) (dVar 6)) dNil))) (ρ := [some (.fro (encP p)), some (.fro (.str one)), some (.fro (.int v)), some (.fro (encP p)), none, none, none]) (ρ1 := [some (.fro (encP p)), some (.fro (.str one)), some (.fro (.int v)), some (.fro (encP p)), none, none, none]) (xs := p) (by simp; rfl) (by simp) (szl _ (by omega)) (by simp [encR]) (fun r hr => by
      have hs := strOk_nms _ (h.names r hr)
      by_cases e : r.1 = one
      · rw [if_pos e]
        simp [eqD_str hs hos, eqD_str hos hos, e, encR]
      · rw [if_neg e]
        simp [eqD_str hs hos, e, encR]) (by simp)
    rw [this]
    unfold encP setN
    rw [List.map_map]
    rfl
  unfold r_changed runF startE d_changed
  simp [rows_ok h, hlc1, ninD_strs hos h.str, ho, number_ok h0 h1, hlc2]
/-! ### lots -/
def encT (L : List Str) : D := .tup (L.map D.str)
theorem lots_ok (L : List Str) (hL : L.length ≤ 9) : ∃ fs : List (List Str), r__law_lots [encS L] = .ok (.lst (fs.map encT)) ∧ (∀ f ∈ fs, f.Sublist L) ∧ fs.length ≤ 512 := by
  have hF := sFor_inv D.str (fi := dSeq (dVar 0)) (g := gN 2) (f := sSet 1 (dOp addD (dVar 1) (dLc [3] (dSeq (dVar 1)) (gN 3) (fun ρ => .ok true ρ) (dOp addD (dVar 3) (dTup (dCons (dVar 2) dNil))))))
    (ρ := [some (.fro (encS L)), some (.fro (.lst [.tup []])), none, none]) (ρ1 := [some (.fro (encS L)), some (.fro (.lst [.tup []])), none, none]) (xs := L)
    (fun done ρ => ∃ (a : Option Sl) (fs : List (List Str)), ρ = [some (.fro (encS L)), some (.fro (.lst (fs.map encT))), a, none] ∧ (∀ f ∈ fs, f.Sublist done) ∧ fs.length = 2 ^ done.length) (by simp) ⟨none, [[]], rfl, by simp, rfl⟩ (by
      rintro done x rest ρ e ⟨a, fs, rfl, h1, h2⟩
      have hd : done.length < 9 := by
        have := congrArg List.length e
        rw [List.length_append, List.length_cons] at this
        omega
      have hp : 2 ^ done.length ≤ 2 ^ 8 := Nat.pow_le_pow_right (by omega) (by omega)
      have hf : fs.length ≤ 256 := by omega
      have hfl : ∀ f ∈ fs, f.length ≤ 9 := fun f hf => by have := (h1 f hf).length_le; omega
      have hlc : dLc [3] (dSeq (dVar 1)) (gN 3) (fun ρ => .ok true ρ) (dOp addD (dVar 3) (dTup (dCons (dVar 2) dNil))) [some (.fro (encS L)), some (.fro (.lst (fs.map encT))), some (.fro (.str x)), none] = .ok (.lst (fs.map fun f => encT (f ++ [x]))) [some (.fro (encS L)), some (.fro (.lst (fs.map encT))), some (.fro (.str x)), none] :=
        dLc_all encT (fun f => encT (f ++ [x])) (fun f => [some (.fro (encS L)), some (.fro (.lst (fs.map encT))), some (.fro (.str x)), some (.fro (encT f))]) (by simp) (by simp) (szl _ (by omega)) (by simp) (fun f hfm => by
          have := hfl f hfm
          have hz : f.length + 1 ≤ 16777216 := by omega
          simp [encT, addD, hz]) (by simp)
      have hz : fs.length + fs.length ≤ 16777216 := by omega
      have hadd : addD (.lst (fs.map encT)) (.lst (fs.map fun f => encT (f ++ [x]))) = some (.lst ((fs ++ fs.map fun f => f ++ [x]).map encT)) := by
        unfold addD
        dsimp only
        rw [if_pos (by rw [List.length_map, List.length_map, szLine]; exact hz), List.map_append, List.map_map]
        rfl
      refine ⟨[some (.fro (encS L)), some (.fro (.lst (fs.map encT))), some (.fro (.str x)), none], [some (.fro (encS L)), some (.fro (.lst ((fs ++ fs.map fun f => f ++ [x]).map encT))), some (.fro (.str x)), none], by simp, .inl ?_, _, _, rfl, ?_, ?_⟩
      · simp only [e_sSet, e_Op, e_Var, at1, e_bok, hlc, hadd, e_lift, e_sE_ok]
        simp
      · intro f hf
        rcases List.mem_append.mp hf with z | z
        · exact (h1 f z).trans (List.sublist_append_left _ _)
        · obtain ⟨g, hg, rfl⟩ := List.mem_map.mp z
          exact (h1 g hg).append (List.Sublist.refl _)
      · rw [List.length_append, List.length_map, List.length_append, h2]
        simp only [List.length_cons, List.length_nil, Nat.pow_add]
        omega)
  obtain ⟨ρ', hF, a, fs, rfl, h1, h2⟩ := hF
  refine ⟨fs, ?_, h1, ?_⟩
  · unfold r__law_lots runF startE d__law_lots
    simp [hF]
  · rw [h2]
    have : 2 ^ L.length ≤ 2 ^ 9 := Nat.pow_le_pow_right (by omega) hL
    omega
end K41
namespace K41
open PySem PySem.Spec L2 PD PL

/-! ### draws, sameness -/
theorem next_eq : m__law_next = nextM := rfl
theorem draw {s : D} {L : Int} (h : StOk s) (h0 : 0 < L) (h1 : L < 1073741824) : ∃ (v : Nat) (s' : D), m__law_next s [.int L] = .ok (.int (v : Int)) s' ∧ (v : Int) < L ∧ StOk s' := by
  obtain ⟨v, s', h2, h3, h4, h5⟩ := next_ok h h0 h1
  refine ⟨v.toNat, s', ?_, ?_, h5⟩
  · rw [next_eq, h2, Int.toNat_of_nonneg h3]
  · rw [Int.toNat_of_nonneg h3]; exact h4
theorem rr_eq : ∀ k, rr__law_same k = sameR k
  | 0 => rfl
  | k + 1 => by
    show runF .fro 3 (d__law_same (rr__law_same k)) = runF .fro 3 (dSame (sameR k))
    rw [rr_eq k]
    rfl
theorem same_strs {L M : List Str} (hL : ∀ x ∈ L, PyData.strOk x = true) (hM : ∀ x ∈ M, PyData.strOk x = true) (hl : M.length ≤ 1000) : r__law_same [encS L, encS M] = .ok (.bl (decide (L = M))) := by
  obtain ⟨b, h1, h2⟩ := same_ok 2 (d := encS L) (e := encS M) (n := 1) (by omega) (by omega) (plv_strs hL) (plv_mono _ (plv_strs hM) (by omega)) ⟨by rw [List.length_map]; omega, fun d hd => by
    obtain ⟨y, _, rfl⟩ := List.mem_map.mp hd
    exact trivial⟩
  have e : r__law_same [encS L, encS M] = sameR 3 [encS L, encS M] := by unfold r__law_same; rw [rr_eq]
  rw [e, h1]
  congr 2
  rw [Bool.eq_iff_iff, h2, decide_eq_true_iff]
  exact ⟨fun h => map_str_inj (D.lst.inj h), fun h => by rw [h]⟩
theorem same_nats {L : List Nat} (hl : L.length ≤ 1000) : r__law_same [encN L, encN L] = .ok (.bl true) := by
  have hp : plv 1 (encN L) = true := plv_map fun x _ => rfl
  obtain ⟨b, h1, h2⟩ := same_ok 2 (d := encN L) (e := encN L) (n := 1) (by omega) (by omega) hp (plv_mono _ hp (by omega)) ⟨by rw [List.length_map]; omega, fun d hd => by
    obtain ⟨y, _, rfl⟩ := List.mem_map.mp hd
    exact trivial⟩
  have e : r__law_same [encN L, encN L] = sameR 3 [encN L, encN L] := by unfold r__law_same; rw [rr_eq]
  rw [e, h1, h2.mpr rfl]
/-! ### the slots of the law -/
def EV (s nms a3 pl nd one less more a9 a10 som wid up dn a16 won fre : Option Sl) : PD.Env := [none, s, nms, a3, pl, nd, one, less, more, a9, a10, som, wid, none, up, dn, a16, none, none, none, won, fre, none]
abbrev F (d : D) : Option Sl := some (.fro d)
abbrev O (d : D) : Option Sl := some (.own d)
def ABC : List Str := ["a", "b", "c", "d", "e", "f", "g"]
theorem abc_asc : ABC.Pairwise sLt := by decide +kernel
theorem abc_nms : ∀ x ∈ ABC, x ∈ NMS := by decide +kernel
theorem p1 {s : D} (h : StOk s) : ∃ (n : Nat) (s' : D), n ≤ 7 ∧ 2 ≤ n ∧ StOk s' ∧ l_1 (EV (O s) none none none none none none none none none none none none none none none none) = .nx (EV (O s') (F (encS (ABC.take n))) none none none none none none none none none none none none none none none) := by
  obtain ⟨v, s', h1, h2, h3⟩ := draw h (L := 6) (by omega) (by omega)
  refine ⟨2 + v, s', by omega, by omega, h3, ?_⟩
  have hs := sl_strs (L := ABC) (2 + v)
  have e : (2 : Int) + (v : Int) = ((2 + v : Nat) : Int) := by omega
  have hs' : slD none (some ((2 : Int) + (v : Int))) (.lst [.str "a", .str "b", .str "c", .str "d", .str "e", .str "f", .str "g"]) = some (encS (ABC.take (2 + v))) := by
    rw [e]
    exact hs
  unfold l_1 EV
  simp [h1, hs']
/-! the pledges -/
theorem p2 {s : D} (h : StOk s) {N : List Str} (hN : N.length ≤ 7) : ∃ (p : Rows) (s' : D), nm p = N ∧ (∀ r ∈ p, 0 ≤ r.2 ∧ r.2 ≤ 7) ∧ StOk s' ∧ l_2 (EV (O s) (F (encS N)) none none none none none none none none none none none none none none none) = .nx (EV (O s') (F (encS N)) none (F (encP p)) none none none none none none none none none none none none none) := by
  have := dLc_inv D.str (vs := [3]) (fi := dSeq (dVar 2)) (g := gN 3) (ft := fun ρ => .ok true ρ) (fe := dTup (dCons (dVar 3) (dCons (dCallM 1 m__law_next (dCons (dC (.int 8)) dNil)) dNil))) (ρ := EV (O s) (F (encS N)) none none none none none none none none none none none none none none none) (ρ1 := EV (O s) (F (encS N)) none none none none none none none none none none none none none none none) (xs := N)
    (fun done ys ρ => ∃ (p : Rows) (s' : D), ρ = EV (O s') (F (encS N)) none none none none none none none none none none none none none none none ∧ ys = p.map encR ∧ nm p = done ∧ (∀ r ∈ p, 0 ≤ r.2 ∧ r.2 ≤ 7) ∧ StOk s')
    (by simp [EV]) (by simp [EV]) (szl _ (by omega)) ⟨[], s, rfl, rfl, rfl, by simp, h⟩ (by
      rintro done x rest ys ρ e ⟨p, s1, rfl, rfl, h1, h2, h3⟩
      obtain ⟨v, s2, h4, h5, h6⟩ := draw h3 (L := 8) (by omega) (by omega)
      refine ⟨EV (O s1) (F (encS N)) (F (.str x)) none none none none none none none none none none none none none none, by simp [EV], .inr ⟨EV (O s1) (F (encS N)) (F (.str x)) none none none none none none none none none none none none none none, EV (O s2) (F (encS N)) (F (.str x)) none none none none none none none none none none none none none none, encR (x, (v : Int)), rfl, by simp [EV, h4, encR], p ++ [(x, (v : Int))], s2, by simp [EV], by simp, by unfold nm; rw [List.map_append]; show nm p ++ [x] = _; rw [h1], ?_, h6⟩⟩
      intro r hr
      rcases List.mem_append.mp hr with z | z
      · exact h2 r z
      · rw [List.mem_singleton] at z
        subst z
        exact ⟨by simp, by show (v : Int) ≤ 7; omega⟩)
  obtain ⟨zs, ρ', e1, p, s', rfl, rfl, h1, h2, h3⟩ := this
  refine ⟨p, s', h1, h2, h3, ?_⟩
  unfold l_2
  rw [e_sSet, e1]
  simp [EV, encP]
/-! what each needs -/
theorem merge_new : ∀ (ps : List (Str × Int)) (acc : List (DK × D)), (nm ps).Nodup → (∀ r ∈ ps, ∀ kv ∈ acc, kv.1 ≠ .inl (.inr r.1)) → mergeD acc (ps.map fun r => ((.inr r.1 : Key), D.int r.2)) = acc ++ ps.map fun r => ((.inl (.inr r.1) : DK), D.int r.2)
  | [], acc, _, _ => by simp [mergeD]
  | r :: ps, acc, hn, hd => by
    rw [List.map_cons, mergeD, if_neg]
    · have hn' : r.1 ∉ nm ps ∧ (nm ps).Nodup := List.nodup_cons.mp hn
      rw [merge_new ps _ hn'.2]
      · simp
      · intro q hq kv hkv
        rcases List.mem_append.mp hkv with z | z
        · exact hd q (List.mem_cons_of_mem _ hq) kv z
        · rw [List.mem_singleton] at z
          subst z
          intro e
          have : r.1 = q.1 := by simpa using e
          exact hn'.1 (this ▸ List.mem_map_of_mem hq)
    · rw [List.any_eq_true]
      rintro ⟨kv, hkv, e⟩
      exact hd r (List.mem_cons_self ..) kv hkv (of_decide_eq_true e)
theorem dget_find : ∀ (ps : List (Str × Int)), (nm ps).Nodup → ∀ r ∈ ps, dget (ps.map fun r => ((.inl (.inr r.1) : DK), D.int r.2)) (.inl (.inr r.1)) = some (.int r.2)
  | [], _, r, h => by cases h
  | q :: ps, hn, r, h => by
    have hn' : q.1 ∉ nm ps ∧ (nm ps).Nodup := List.nodup_cons.mp hn
    unfold dget
    rw [List.map_cons]
    rcases List.mem_cons.mp h with e | h'
    · subst e
      rw [List.find?_cons_of_pos (by simp)]
      rfl
    · rw [List.find?_cons_of_neg]
      · exact dget_find ps hn'.2 r h'
      · have : q.1 ≠ r.1 := fun e => hn'.1 (e ▸ List.mem_map_of_mem h')
        simpa using this
theorem need_ok {p : Rows} (hn : (nm p).Nodup) : ∃ nd, dictD [encP p] = some nd ∧ ∀ r ∈ p, ixD nd (.str r.1) = some (.int r.2) := by
  have h1 : ∀ p : Rows, pairsD (p.map encR) = some (p.map fun r => ((.inr r.1 : Key), D.int r.2)) := by
    intro p
    induction p with
    | nil => rfl
    | cons r p ih =>
      rw [List.map_cons, encR, pairsD, ih]
      rfl
  refine ⟨.dct false (p.map fun r => ((.inl (.inr r.1) : DK), D.int r.2)), ?_, fun r hr => ?_⟩
  · unfold encP
    show (pairsD (p.map encR)).map _ = _
    rw [h1]
    show some (D.dct false (mergeD [] _)) = _
    rw [merge_new p [] hn (fun _ _ _ h => by cases h), List.nil_append]
  · show dget _ (.inl (.inr r.1)) = _
    exact dget_find p hn r hr
end K41
namespace K41
open PySem PySem.Spec L2 PD PL

theorem dLc_none {α : Type} (enc : α → D) (E : α → PD.Env) {vs : List Nat} {fi : PD.Env → Out (List D)} {g : D → PD.Env → Option PD.Env} {ft : PD.Env → Out Bool} {fe : PD.Env → Out D} {ρ ρ1 : PD.Env} {xs : List α}
    (hi : fi ρ = .ok (xs.map enc) ρ1) (hc : chkE ρ1 vs = true) (hl : xs.length ≤ sizeLine) (hg : ∀ x ∈ xs, g (enc x) (wipeE ρ1 vs) = some (E x)) (ht : ∀ x ∈ xs, ft (E x) = .ok false (E x)) (hr : ∀ x ∈ xs, restE ρ1 (E x) vs = ρ1) :
    dLc vs fi g ft fe ρ = .ok (.lst []) ρ1 := by
  have := dLc_pure enc (fun _ => false) (fun _ => .non) E (fe := fe) hi hc hl hg ht (fun _ _ z => by cases z) hr
  have e : (xs.filter fun _ => false) = [] := by rw [List.filter_eq_nil_iff]; simp
  rw [e] at this
  exact this
theorem ne_nil : neD (.lst []) (.lst []) = some (.bl false) := rfl
theorem eq_nil : eqD (.lst []) (.lst []) = some (.bl true) := rfl
section
variable {s nms a3 pl nd one less more a9 a10 som wid up dn a16 won fre : Option Sl} {p lo hi : Rows}
/-- one pair of pledges, the first's numbers no greater -/
def body7 : PD.Env → RS := (sSeq (sIf (dOrT (dTest (dOp neD (dLc [3] (dSeq (dCall r_fewest [] (dCons (dVar 10) dNil))) (gN 3) (dTest (dOp ninD (dVar 3) (dCall r_fewest [] (dCons (dVar 9) dNil)))) (dVar 3)) (dLst dNil))) (dTest (dOp neD (dLc [3] (dSeq (dCall r_most [] (dCons (dVar 10) dNil))) (gN 3) (dTest (dOp ninD (dVar 3) (dCall r_most [] (dCons (dVar 9) dNil)))) (dVar 3)) (dLst dNil)))) (sRet (dC (.bl false))) sNil)
  (sIf (dTest (dOp gtD (dCB lenD (dCons (dCall r_starters [] (dCons (dVar 9) dNil)) dNil)) (dCB lenD (dCons (dCall r_starters [] (dCons (dVar 10) dNil)) dNil)))) (sRet (dC (.bl false))) sNil))
theorem body7_ok (hl : OkP lo) (hh : OkP hi) (hL : Lower lo hi) : body7 (EV s nms none pl nd one less more (F (encP lo)) (F (encP hi)) som wid up dn a16 won fre) = .nx (EV s nms none pl nd one less more (F (encP lo)) (F (encP hi)) som wid up dn a16 won fre) := by
  obtain ⟨f1, h1, i1⟩ := few_ok hl
  obtain ⟨f2, h2, i2⟩ := few_ok hh
  obtain ⟨m1, h3, j1⟩ := most_ok hl
  obtain ⟨m2, h4, j2⟩ := most_ok hh
  obtain ⟨w1, h5, k1⟩ := st_ok hl
  obtain ⟨w2, h6, k2⟩ := st_ok hh
  have a := few_lower hL i1 i2
  have b := most_lower hL j1 j2
  have c := st_lower hL hl.nd k1 k2
  have q1 : dLc [3] (dSeq (dCall r_fewest [] (dCons (dVar 10) dNil))) (gN 3) (dTest (dOp ninD (dVar 3) (dCall r_fewest [] (dCons (dVar 9) dNil)))) (dVar 3) (EV s nms none pl nd one less more (F (encP lo)) (F (encP hi)) som wid up dn a16 won fre) = .ok (.lst []) (EV s nms none pl nd one less more (F (encP lo)) (F (encP hi)) som wid up dn a16 won fre) :=
    dLc_none D.str (fun x => EV s nms (F (.str x)) pl nd one less more (F (encP lo)) (F (encP hi)) som wid up dn a16 won fre) (xs := f2) (by simp [EV, h2]) (by simp [EV]) (szl _ (by have := sub_len hh i2.sub; omega)) (by simp [EV]) (fun x hx => by
      have := ninD_strs (sub_str hh i2.sub x hx) (sub_str hl i1.sub)
      simp [EV, h1, this, a x hx]) (by simp [EV])
  have q2 : dLc [3] (dSeq (dCall r_most [] (dCons (dVar 10) dNil))) (gN 3) (dTest (dOp ninD (dVar 3) (dCall r_most [] (dCons (dVar 9) dNil)))) (dVar 3) (EV s nms none pl nd one less more (F (encP lo)) (F (encP hi)) som wid up dn a16 won fre) = .ok (.lst []) (EV s nms none pl nd one less more (F (encP lo)) (F (encP hi)) som wid up dn a16 won fre) :=
    dLc_none D.str (fun x => EV s nms (F (.str x)) pl nd one less more (F (encP lo)) (F (encP hi)) som wid up dn a16 won fre) (xs := m2) (by simp [EV, h4]) (by simp [EV]) (szl _ (by have := sub_len hh j2.sub; omega)) (by simp [EV]) (fun x hx => by
      have := ninD_strs (sub_str hh j2.sub x hx) (sub_str hl j1.sub)
      simp [EV, h3, this, b x hx]) (by simp [EV])
  have hgt : ¬ ((w2.length : Int) < w1.length) := by omega
  unfold body7
  simp only [EV, F] at q1 q2 ⊢
  simp [q1, q2, ne_nil, h5, h6, hgt]
theorem p7 {le mo : Rows} (h1 : OkP le) (h2 : OkP p) (h3 : OkP mo) (h4 : Lower le p) (h5 : Lower p mo) : l_7 (EV s nms none (F (encP p)) nd one (F (encP le)) (F (encP mo)) none none som wid up dn a16 won fre) = .nx (EV s nms none (F (encP p)) nd one (F (encP le)) (F (encP mo)) (F (encP p)) (F (encP mo)) som wid up dn a16 won fre) := by
  have b1 := body7_ok (s := s) (nms := nms) (pl := F (encP p)) (nd := nd) (one := one) (less := F (encP le)) (more := F (encP mo)) (som := som) (wid := wid) (up := up) (dn := dn) (a16 := a16) (won := won) (fre := fre) h1 h2 h4
  have b2 := body7_ok (s := s) (nms := nms) (pl := F (encP p)) (nd := nd) (one := one) (less := F (encP le)) (more := F (encP mo)) (som := som) (wid := wid) (up := up) (dn := dn) (a16 := a16) (won := won) (fre := fre) h2 h3 h5
  have e : l_7 = sFor (dSeq (dLst (dCons (dTup (dCons (dVar 7) (dCons (dVar 4) dNil))) (dCons (dTup (dCons (dVar 4) (dCons (dVar 8) dNil))) dNil)))) (gTupD 2 (gsCons (gN 9) (gsCons (gN 10) gsNil))) body7 := rfl
  rw [e]
  unfold sFor
  have hi : dSeq (dLst (dCons (dTup (dCons (dVar 7) (dCons (dVar 4) dNil))) (dCons (dTup (dCons (dVar 4) (dCons (dVar 8) dNil))) dNil))) (EV s nms none (F (encP p)) nd one (F (encP le)) (F (encP mo)) none none som wid up dn a16 won fre) = .ok [.tup [encP le, encP p], .tup [encP p, encP mo]] (EV s nms none (F (encP p)) nd one (F (encP le)) (F (encP mo)) none none som wid up dn a16 won fre) := by simp [EV]
  rw [hi, e_sE_ok, forL]
  have g1 : gTupD 2 (gsCons (gN 9) (gsCons (gN 10) gsNil)) (.tup [encP le, encP p]) (EV s nms none (F (encP p)) nd one (F (encP le)) (F (encP mo)) none none som wid up dn a16 won fre) = some (EV s nms none (F (encP p)) nd one (F (encP le)) (F (encP mo)) (F (encP le)) (F (encP p)) som wid up dn a16 won fre) := by simp [EV]
  have g2 : gTupD 2 (gsCons (gN 9) (gsCons (gN 10) gsNil)) (.tup [encP p, encP mo]) (EV s nms none (F (encP p)) nd one (F (encP le)) (F (encP mo)) (F (encP le)) (F (encP p)) som wid up dn a16 won fre) = some (EV s nms none (F (encP p)) nd one (F (encP le)) (F (encP mo)) (F (encP p)) (F (encP mo)) som wid up dn a16 won fre) := by simp [EV]
  rw [g1]
  dsimp only
  rw [b1]
  dsimp only
  rw [forL, g2]
  dsimp only
  rw [b2]
  rfl
/-! some names, and more of them -/
theorem p8 {st : D} (h : StOk st) {N : List Str} (hN : N.length ≤ 7) : ∃ (L : List Str) (s' : D), L.Sublist N ∧ StOk s' ∧ l_8 (EV (O st) (F (encS N)) none pl nd one less more a9 a10 none wid up dn a16 won fre) = .nx (EV (O s') (F (encS N)) none pl nd one less more a9 a10 (F (encS L)) wid up dn a16 won fre) := by
  have := dLc_inv D.str (vs := [3]) (fi := dSeq (dVar 2)) (g := gN 3) (ft := dTest (dOp eqD (dCallM 1 m__law_next (dCons (dC (.int 2)) dNil)) (dC (.int 0)))) (fe := dVar 3) (ρ := EV (O st) (F (encS N)) none pl nd one less more a9 a10 none wid up dn a16 won fre) (ρ1 := EV (O st) (F (encS N)) none pl nd one less more a9 a10 none wid up dn a16 won fre) (xs := N)
    (fun done ys ρ => ∃ (L : List Str) (s' : D), ρ = EV (O s') (F (encS N)) none pl nd one less more a9 a10 none wid up dn a16 won fre ∧ ys = L.map D.str ∧ L.Sublist done ∧ StOk s')
    (by simp [EV]) (by simp [EV]) (szl _ (by omega)) ⟨[], st, rfl, rfl, List.Sublist.refl _, h⟩ (by
      rintro done x rest ys ρ e ⟨L, s1, rfl, rfl, h2, h3⟩
      obtain ⟨v, s2, h4, h5, h6⟩ := draw h3 (L := 2) (by omega) (by omega)
      refine ⟨EV (O s1) (F (encS N)) (F (.str x)) pl nd one less more a9 a10 none wid up dn a16 won fre, by simp [EV], ?_⟩
      by_cases hv : v = 0
      · right
        subst hv
        refine ⟨EV (O s2) (F (encS N)) (F (.str x)) pl nd one less more a9 a10 none wid up dn a16 won fre, EV (O s2) (F (encS N)) (F (.str x)) pl nd one less more a9 a10 none wid up dn a16 won fre, .str x, by simp [EV, h4], by simp [EV], L ++ [x], s2, by simp [EV], by simp, h2.append (List.Sublist.refl _), h6⟩
      · left
        have hv' : ¬ ((v : Int) = 0) := by omega
        refine ⟨EV (O s2) (F (encS N)) (F (.str x)) pl nd one less more a9 a10 none wid up dn a16 won fre, by simp [EV, h4, hv], L, s2, by simp [EV], rfl, h2.trans (List.sublist_append_left _ _), h6⟩)
  obtain ⟨zs, ρ', e1, L, s', rfl, rfl, h2, h3⟩ := this
  refine ⟨L, s', h2, h3, ?_⟩
  unfold l_8
  rw [e_sSet, e1]
  simp [EV, encS]
theorem p9 {st : D} (h : StOk st) {N S : List Str} (hN : N.length ≤ 7) (hok : ∀ x ∈ N, PyData.strOk x = true) (hS : S.Sublist N) : ∃ (L : List Str) (s' : D), L.Sublist N ∧ (∀ x ∈ S, x ∈ L) ∧ StOk s' ∧ l_9 (EV (O st) (F (encS N)) none pl nd one less more a9 a10 (F (encS S)) none up dn a16 won fre) = .nx (EV (O s') (F (encS N)) none pl nd one less more a9 a10 (F (encS S)) (F (encS L)) up dn a16 won fre) := by
  have hSok : ∀ x ∈ S, PyData.strOk x = true := fun x hx => hok x (hS.subset hx)
  have := dLc_inv D.str (vs := [3]) (fi := dSeq (dVar 2)) (g := gN 3) (ft := dOrT (dTest (dOp inD (dVar 3) (dVar 11))) (dTest (dOp eqD (dCallM 1 m__law_next (dCons (dC (.int 2)) dNil)) (dC (.int 0))))) (fe := dVar 3) (ρ := EV (O st) (F (encS N)) none pl nd one less more a9 a10 (F (encS S)) none up dn a16 won fre) (ρ1 := EV (O st) (F (encS N)) none pl nd one less more a9 a10 (F (encS S)) none up dn a16 won fre) (xs := N)
    (fun done ys ρ => ∃ (L : List Str) (s' : D), ρ = EV (O s') (F (encS N)) none pl nd one less more a9 a10 (F (encS S)) none up dn a16 won fre ∧ ys = L.map D.str ∧ L.Sublist done ∧ (∀ x ∈ done, x ∈ S → x ∈ L) ∧ StOk s')
    (by simp [EV]) (by simp [EV]) (szl _ (by omega)) ⟨[], st, rfl, rfl, List.Sublist.refl _, by simp, h⟩ (by
      rintro done x rest ys ρ e ⟨L, s1, rfl, rfl, h2, hh, h3⟩
      have hx : x ∈ N := by rw [e]; simp
      refine ⟨EV (O s1) (F (encS N)) (F (.str x)) pl nd one less more a9 a10 (F (encS S)) none up dn a16 won fre, by simp [EV], ?_⟩
      have hin := inD_strs (hok x hx) hSok
      have hadd : ∀ y ∈ done ++ [x], y ∈ S → y ∈ L ++ [x] := fun y hy hyS => by
        rcases List.mem_append.mp hy with z | z
        · exact List.mem_append_left _ (hh y z hyS)
        · exact List.mem_append_right _ z
      by_cases hxS : x ∈ S
      · right
        refine ⟨EV (O s1) (F (encS N)) (F (.str x)) pl nd one less more a9 a10 (F (encS S)) none up dn a16 won fre, EV (O s1) (F (encS N)) (F (.str x)) pl nd one less more a9 a10 (F (encS S)) none up dn a16 won fre, .str x, by simp [EV, hin, hxS], by simp [EV], L ++ [x], s1, by simp [EV], by simp, h2.append (List.Sublist.refl _), hadd, h3⟩
      · obtain ⟨v, s2, h4, h5, h6⟩ := draw h3 (L := 2) (by omega) (by omega)
        by_cases hv : v = 0
        · right
          subst hv
          refine ⟨EV (O s2) (F (encS N)) (F (.str x)) pl nd one less more a9 a10 (F (encS S)) none up dn a16 won fre, EV (O s2) (F (encS N)) (F (.str x)) pl nd one less more a9 a10 (F (encS S)) none up dn a16 won fre, .str x, by simp [EV, hin, hxS, h4], by simp [EV], L ++ [x], s2, by simp [EV], by simp, h2.append (List.Sublist.refl _), hadd, h6⟩
        · left
          have hv' : ¬ ((v : Int) = 0) := by omega
          refine ⟨EV (O s2) (F (encS N)) (F (.str x)) pl nd one less more a9 a10 (F (encS S)) none up dn a16 won fre, by simp [EV, hin, hxS, h4, hv], L, s2, by simp [EV], rfl, h2.trans (List.sublist_append_left _ _), fun y hy hyS => ?_, h6⟩
          rcases List.mem_append.mp hy with z | z
          · exact hh y z hyS
          · rw [List.mem_singleton] at z
            subst z
            exact absurd hyS hxS)
  obtain ⟨zs, ρ', e1, L, s', rfl, rfl, h2, hh, h3⟩ := this
  refine ⟨L, s', h2, fun x hx => hh x (hS.subset hx) hx, h3, ?_⟩
  unfold l_9
  rw [e_sSet, e1]
  simp [EV, encS]
/-! told less oneself grows -/
theorem p10 (h : OkP p) {S L : List Str} {ndv : D} (hnd : ∀ r ∈ p, ixD ndv (.str r.1) = some (.int r.2)) (hS : S.Sublist (nm p)) (hL : L.Sublist (nm p)) (hsl : ∀ x ∈ S, x ∈ L) (hne : nm p ≠ []) :
    ∃ a, l_10 (EV s (F (encS (nm p))) none (F (encP p)) (F ndv) one less more a9 a10 (F (encS S)) (F (encS L)) up dn a16 won fre) = .nx (EV s (F (encS (nm p))) (F a) (F (encP p)) (F ndv) one less more a9 a10 (F (encS S)) (F (encS L)) up dn a16 won fre) := by
  have hn := len_nm h
  have := sFor_inv D.str (fi := dSeq (dVar 2)) (g := gN 3) (f := sIf (dAndT (dTest (dOp geD (dCB lenD (dCons (dLc [13] (dSeq (dVar 11)) (gN 13) (dTest (dOp neD (dVar 13) (dVar 3))) (dC (.int 1))) dNil)) (dOp ixD (dVar 5) (dVar 3)))) (dTest (dOp ninD (dVar 3) (dCall r_would [] (dCons (dVar 4) (dCons (dVar 12) dNil)))))) (sRet (dC (.bl false))) sNil)
    (ρ := EV s (F (encS (nm p))) none (F (encP p)) (F ndv) one less more a9 a10 (F (encS S)) (F (encS L)) up dn a16 won fre) (ρ1 := EV s (F (encS (nm p))) none (F (encP p)) (F ndv) one less more a9 a10 (F (encS S)) (F (encS L)) up dn a16 won fre) (xs := nm p)
    (fun done ρ => ∃ a, ρ = EV s (F (encS (nm p))) a (F (encP p)) (F ndv) one less more a9 a10 (F (encS S)) (F (encS L)) up dn a16 won fre ∧ (done = [] ∨ ∃ d, a = F d)) (by simp [EV]) ⟨none, rfl, .inl rfl⟩ (by
      rintro done x rest ρ e ⟨a, rfl, _⟩
      have hx : x ∈ nm p := by rw [e]; simp
      have hxo := h.str x hx
      obtain ⟨r, hr, rfl⟩ := List.mem_map.mp hx
      refine ⟨EV s (F (encS (nm p))) (F (.str r.1)) (F (encP p)) (F ndv) one less more a9 a10 (F (encS S)) (F (encS L)) up dn a16 won fre, EV s (F (encS (nm p))) (F (.str r.1)) (F (encP p)) (F ndv) one less more a9 a10 (F (encS S)) (F (encS L)) up dn a16 won fre, by simp [EV], .inl ?_, _, rfl, .inr ⟨_, rfl⟩⟩
      have hlc : dLc [13] (dSeq (dVar 11)) (gN 13) (dTest (dOp neD (dVar 13) (dVar 3))) (dC (.int 1)) (EV s (F (encS (nm p))) (F (.str r.1)) (F (encP p)) (F ndv) one less more a9 a10 (F (encS S)) (F (encS L)) up dn a16 won fre) = .ok (.lst ((S.filter fun x => !decide (x = r.1)).map fun _ => .int 1)) (EV s (F (encS (nm p))) (F (.str r.1)) (F (encP p)) (F ndv) one less more a9 a10 (F (encS S)) (F (encS L)) up dn a16 won fre) :=
        dLc_pure D.str (fun x => !decide (x = r.1)) (fun _ => .int 1) (fun x => [none, s, F (encS (nm p)), F (.str r.1), F (encP p), F ndv, one, less, more, a9, a10, F (encS S), F (encS L), F (.str x), up, dn, a16, none, none, none, won, fre, none]) (by simp [EV]) (by simp [EV]) (szl _ (by have := sub_len h hS; omega)) (by simp [EV]) (fun y hy => by
          have := neD_str (sub_str h hS y hy) hxo
          simp [this]) (by simp) (by simp [EV])
      have hcnt : ((S.filter fun x => !decide (x = r.1)).length : Int) ≤ (L.length : Int) - (if r.1 ∈ L then 1 else 0) := by
        have hs : (S.filter fun x => !decide (x = r.1)).length ≤ (L.erase r.1).length := by
          refine List.Nodup.length_le_of_subset (List.Nodup.sublist List.filter_sublist (hS.nodup h.nd)) fun y hy => ?_
          obtain ⟨h1, h2⟩ := List.mem_filter.mp hy
          rw [List.Nodup.mem_erase_iff (hL.nodup h.nd)]
          exact ⟨by simpa using h2, hsl y h1⟩
        by_cases hm : r.1 ∈ L
        · rw [if_pos hm]
          rw [List.length_erase_of_mem hm] at hs
          have := List.length_pos_of_mem hm
          omega
        · rw [if_neg hm]
          rw [List.erase_of_not_mem hm] at hs
          omega
      have hw := would_ok h hL
      have hni := ninD_strs hxo (sub_str h (W_sub p L))
      by_cases hge : r.2 ≤ ((S.filter fun x => !decide (x = r.1)).length : Int)
      · have hin : r.1 ∈ W p L := mem_W.mpr ⟨r, hr, rfl, by omega⟩
        simp only [e_sIf, e_AndT, e_Test, e_Op, e_CB, e_Cons, e_Nil, hlc, e_bok]
        simp [EV, hnd r hr, hge, hw, hni, hin]
      · simp only [e_sIf, e_AndT, e_Test, e_Op, e_CB, e_Cons, e_Nil, hlc, e_bok]
        simp [EV, hnd r hr, hge])
  obtain ⟨ρ', h1, a, rfl, h2⟩ := this
  rcases h2 with h2 | ⟨d, rfl⟩
  · exact absurd h2 hne
  · exact ⟨d, h1⟩
end
end K41
namespace K41
open PySem PySem.Spec L2 PD PL
/-! ### rounds up and down -/
theorem up_ok {p : Rows} (h : OkP p) : ∃ (front : List (List Str)) (last : List Str), r_steps [encP p, .lst []] = .ok (.lst ((front ++ [last]).map encS)) ∧ IsL p last ∧ (front ++ [last]).Pairwise (fun a b => ∀ x, x ∈ a → x ∈ b) ∧ (∀ c ∈ front ++ [last], c.Sublist (nm p)) ∧ front.length ≤ 9 := by
  have hln := len_nm h
  obtain ⟨front, last, h1, h2, h3, h4, h5, h6, _, h8⟩ := steps_gen h (fun a b => ∀ x, x ∈ a → x ∈ b) (fun a => 9 - a.length) (fun c => ∀ G, G.Sublist (nm p) → (∀ x, x ∈ W p G → x ∈ G) → ∀ x, x ∈ c → x ∈ G)
    (fun a b ha hb hab => W_mono ha hb h.nd hab) (fun a b c h1 h2 x hx => h2 x (h1 x hx))
    (fun a b ha hb hab hne => by
      have := len_lt ha hb h.nd hab hne
      have := hb.length_le
      show 9 - b.length < 9 - a.length
      omega)
    (fun a b ha hb h1 h2 => sub_ext ha hb h.nd fun x => ⟨h1 x, h2 x⟩) (fun a x hx => hx)
    (fun c hc hP G hG hcl x hx => hcl x (W_mono hc hG h.nd (hP G hG hcl) x hx)) (List.nil_sublist (nm p)) (fun x hx => by cases hx) (by simp) (fun _ _ _ x hx => by cases hx)
  exact ⟨front, last, h1, ⟨h4, h2, h3⟩, h5, h6, h8⟩
theorem down_ok {p : Rows} (h : OkP p) : ∃ (front : List (List Str)) (last : List Str), r_steps [encP p, encS (nm p)] = .ok (.lst ((front ++ [last]).map encS)) ∧ IsM p last ∧ (front ++ [last]).Pairwise (fun a b => ∀ x, x ∈ b → x ∈ a) ∧ (∀ c ∈ front ++ [last], c.Sublist (nm p)) ∧ front.length ≤ 9 := by
  have hln := len_nm h
  obtain ⟨front, last, h1, h2, h3, h4, h5, h6, _, h8⟩ := steps_gen h (fun a b => ∀ x, x ∈ b → x ∈ a) (fun a => a.length) (fun c => ∀ G, G.Sublist (nm p) → (∀ x, x ∈ G → x ∈ W p G) → ∀ x, x ∈ G → x ∈ c)
    (fun a b ha hb hab => W_mono hb ha h.nd hab) (fun a b c h1 h2 x hx => h1 x (h2 x hx))
    (fun a b ha hb hab hne => len_lt hb ha h.nd hab fun z => hne z.symm)
    (fun a b ha hb h1 h2 => sub_ext ha hb h.nd fun x => ⟨h2 x, h1 x⟩) (fun a x hx => hx)
    (fun c hc hP G hG hcl x hx => W_mono hG hc h.nd (hP G hG hcl) x (hcl x hx)) (List.Sublist.refl (nm p)) (fun x hx => (W_sub p _).subset hx) hln (fun G hG _ x hx => hG.subset hx)
  exact ⟨front, last, h1, ⟨h4, h2, h3⟩, h5, h6, h8⟩
theorem add_lst {a b : List D} (h : a.length + b.length ≤ 1000000) : addD (.lst a) (.lst b) = some (.lst (a ++ b)) := by
  unfold addD
  dsimp only
  rw [if_pos (by rw [szLine]; omega)]
section
variable {s nms a3 pl nd one less more a9 a10 som wid up dn a16 won fre : Option Sl} {p : Rows}
theorem p11 {ch : List (List Str)} (h : r_steps [encP p, .lst []] = .ok (.lst (ch.map encS))) (hl : ch.length ≤ 10) : l_11 (EV s nms a3 (F (encP p)) nd one less more a9 a10 som wid none dn a16 won fre) = .nx (EV s nms a3 (F (encP p)) nd one less more a9 a10 som wid (F (.lst (([] :: ch).map encS))) dn a16 won fre) := by
  have := add_lst (a := [.lst []]) (b := ch.map encS) (by rw [List.length_map]; simp only [List.length_cons, List.length_nil]; omega)
  unfold l_11 EV
  simp [h, this]
  rfl
theorem p12 {ch : List (List Str)} (h : r_steps [encP p, encS (nm p)] = .ok (.lst (ch.map encS))) (hl : ch.length ≤ 10) : l_12 (EV s (F (encS (nm p))) a3 (F (encP p)) nd one less more a9 a10 som wid up none a16 won fre) = .nx (EV s (F (encS (nm p))) a3 (F (encP p)) nd one less more a9 a10 som wid up (F (.lst ((nm p :: ch).map encS))) a16 won fre) := by
  have := add_lst (a := [encS (nm p)]) (b := ch.map encS) (by rw [List.length_map]; simp only [List.length_cons, List.length_nil]; omega)
  unfold l_12 EV
  simp [h, this]
theorem last_cons {x last : List Str} {front : List (List Str)} : ixD (.lst ((x :: (front ++ [last])).map encS)) (.int (-1)) = some (encS last) := by
  have e : (x :: (front ++ [last])).map encS = (x :: front).map encS ++ [encS last] := by simp
  rw [e]
  exact ix_last
theorem p13 (h : OkP p) {x y l1 l2 : List Str} {f1 f2 : List (List Str)} (h1 : IsL p l1) (h2 : IsM p l2) : l_13 (EV s nms a3 (F (encP p)) nd one less more a9 a10 som wid (F (.lst ((x :: (f1 ++ [l1])).map encS))) (F (.lst ((y :: (f2 ++ [l2])).map encS))) a16 won fre) = .nx (EV s nms a3 (F (encP p)) nd one less more a9 a10 som wid (F (.lst ((x :: (f1 ++ [l1])).map encS))) (F (.lst ((y :: (f2 ++ [l2])).map encS))) a16 won fre) := by
  obtain ⟨g1, k1, i1⟩ := few_ok h
  obtain ⟨g2, k2, i2⟩ := most_ok h
  have e1 := isL_uniq h.nd h1 i1
  have e2 := isM_uniq h.nd h2 i2
  subst e1
  subst e2
  have s1 := same_strs (sub_str h h1.sub) (sub_str h h1.sub) (by have := sub_len h h1.sub; omega)
  have s2 := same_strs (sub_str h h2.sub) (sub_str h h2.sub) (by have := sub_len h h2.sub; omega)
  have x1 := last_cons (x := x) (last := l1) (front := f1)
  have x2 := last_cons (x := y) (last := l2) (front := f2)
  generalize (x :: (f1 ++ [l1])).map encS = U at x1 ⊢
  generalize (y :: (f2 ++ [l2])).map encS = V at x2 ⊢
  unfold l_13 EV
  simp [k1, k2, s1, s2, x1, x2, truD]
theorem p15 (h : OkP p) {x y l1 l2 : List Str} {f1 f2 : List (List Str)} (h1 : IsL p l1) (h2 : IsM p l2) : l_15 (EV s nms a3 (F (encP p)) nd one less more a9 a10 som wid (F (.lst ((x :: (f1 ++ [l1])).map encS))) (F (.lst ((y :: (f2 ++ [l2])).map encS))) a16 won fre) = .nx (EV s nms a3 (F (encP p)) nd one less more a9 a10 som wid (F (.lst ((x :: (f1 ++ [l1])).map encS))) (F (.lst ((y :: (f2 ++ [l2])).map encS))) a16 won fre) := by
  have k1 := kept_ok h h1.sub
  have k2 := kept_ok h h2.sub
  rw [h1.fix] at k1
  rw [h2.fix] at k2
  have x1 := last_cons (x := x) (last := l1) (front := f1)
  have x2 := last_cons (x := y) (last := l2) (front := f2)
  generalize (x :: (f1 ++ [l1])).map encS = U at x1 ⊢
  generalize (y :: (f2 ++ [l2])).map encS = V at x2 ⊢
  unfold l_15 EV
  simp [k1, k2, x1, x2, truD]
/-! rounds go up -/
def body14 : PD.Env → RS := sIf (dTest (dOp neD (dLc [17] (dRng1 (dCons (dOp subD (dCB lenD (dCons (dVar 16) dNil)) (dC (.int 1))) dNil)) (gN 17) (dTest (dOp neD (dLc [3] (dSeq (dOp ixD (dVar 16) (dVar 17))) (gN 3) (dTest (dOp ninD (dVar 3) (dOp ixD (dVar 16) (dOp addD (dVar 17) (dC (.int 1)))))) (dVar 3)) (dLst dNil))) (dVar 17)) (dLst dNil))) (sRet (dC (.bl false))) sNil
theorem body14_ok (h : OkP p) {ch : List (List Str)} {a : D} (h1 : ch.Pairwise fun a b => ∀ x, x ∈ a → x ∈ b) (h2 : ∀ c ∈ ch, c.Sublist (nm p)) (h3 : ch.length ≤ 20) (h4 : 0 < ch.length) :
    body14 (EV s nms (F a) pl nd one less more a9 a10 som wid up dn (F (.lst (ch.map encS))) won fre) = .nx (EV s nms (F a) pl nd one less more a9 a10 som wid up dn (F (.lst (ch.map encS))) won fre) := by
  have hlc : dLc [17] (dRng1 (dCons (dOp subD (dCB lenD (dCons (dVar 16) dNil)) (dC (.int 1))) dNil)) (gN 17) (dTest (dOp neD (dLc [3] (dSeq (dOp ixD (dVar 16) (dVar 17))) (gN 3) (dTest (dOp ninD (dVar 3) (dOp ixD (dVar 16) (dOp addD (dVar 17) (dC (.int 1)))))) (dVar 3)) (dLst dNil))) (dVar 17) (EV s nms (F a) pl nd one less more a9 a10 som wid up dn (F (.lst (ch.map encS))) won fre) = .ok (.lst []) (EV s nms (F a) pl nd one less more a9 a10 som wid up dn (F (.lst (ch.map encS))) won fre) := by
    refine dLc_none (fun (i : Nat) => D.int (i : Int)) (fun (i : Nat) => [none, s, nms, F a, pl, nd, one, less, more, a9, a10, som, wid, none, up, dn, F (.lst (ch.map encS)), F (.int (i : Int)), none, none, won, fre, none]) (xs := List.range (ch.length - 1)) ?_ (by simp [EV]) (by rw [List.length_range]; exact szl _ (by omega)) (by simp [EV]) (fun i hi => ?_) (by simp [EV])
    · have e : ((ch.length : Int) - 1).toNat = ch.length - 1 := by omega
      have e2 : -4611686018427387904 ≤ (ch.length : Int) - 1 ∧ (ch.length : Int) - 1 < 4611686018427387904 := ⟨by omega, by omega⟩
      simp [EV, e, e2, rangeL_eq]
    · have hi' := List.mem_range.mp hi
      have hA : ch[i]? = some (ch[i]'(by omega)) := List.getElem?_eq_getElem (by omega)
      have hB : ch[i + 1]? = some (ch[i + 1]'(by omega)) := List.getElem?_eq_getElem (by omega)
      have xA : ixD (.lst (ch.map encS)) (.int (i : Int)) = some (encS (ch[i]'(by omega))) := ixD_nat (by rw [List.getElem?_map, hA]; rfl)
      have xB : ixD (.lst (ch.map encS)) (.int ((i : Int) + 1)) = some (encS (ch[i + 1]'(by omega))) := ixD_nat (i := i + 1) (by rw [List.getElem?_map, hB]; rfl)
      have hsub : ∀ x, x ∈ ch[i]'(by omega) → x ∈ ch[i + 1]'(by omega) := List.pairwise_iff_getElem.mp h1 i (i + 1) (by omega) (by omega) (by omega)
      have sA := h2 _ (List.getElem_mem (l := ch) (n := i) (by omega))
      have sB := h2 _ (List.getElem_mem (l := ch) (n := i + 1) (by omega))
      generalize ch[i]'(by omega) = A at *
      generalize ch[i + 1]'(by omega) = B at *
      have hin : dLc [3] (dSeq (dOp ixD (dVar 16) (dVar 17))) (gN 3) (dTest (dOp ninD (dVar 3) (dOp ixD (dVar 16) (dOp addD (dVar 17) (dC (.int 1)))))) (dVar 3) [none, s, nms, F a, pl, nd, one, less, more, a9, a10, som, wid, none, up, dn, F (.lst (ch.map encS)), F (.int (i : Int)), none, none, won, fre, none] = .ok (.lst []) [none, s, nms, F a, pl, nd, one, less, more, a9, a10, som, wid, none, up, dn, F (.lst (ch.map encS)), F (.int (i : Int)), none, none, won, fre, none] :=
        dLc_none D.str (fun x => [none, s, nms, F (.str x), pl, nd, one, less, more, a9, a10, som, wid, none, up, dn, F (.lst (ch.map encS)), F (.int (i : Int)), none, none, won, fre, none]) (xs := A) (by simp [xA]) (by simp) (szl _ (by have := sub_len h sA; omega)) (by simp) (fun x hx => by
          have := ninD_strs (sub_str h sA x hx) (sub_str h sB)
          simp [xB, this, hsub x hx]) (by simp)
      simp only [F] at hin ⊢
      simp [hin, ne_nil]
  unfold body14
  simp only [EV, F] at hlc ⊢
  simp [hlc, ne_nil]
theorem p14 (h : OkP p) {c1 c2 : List (List Str)} {a : D} (h1 : c1.Pairwise fun a b => ∀ x, x ∈ a → x ∈ b) (h2 : c2.Pairwise fun a b => ∀ x, x ∈ b → x ∈ a) (h3 : ∀ c ∈ c1, c.Sublist (nm p)) (h4 : ∀ c ∈ c2, c.Sublist (nm p)) (h5 : c1.length ≤ 20) (h6 : 0 < c1.length) (h7 : c2.length ≤ 20) (h8 : 0 < c2.length) :
    l_14 (EV s nms (F a) pl nd one less more a9 a10 som wid (F (.lst (c1.map encS))) (F (.lst (c2.map encS))) none won fre) = .nx (EV s nms (F a) pl nd one less more a9 a10 som wid (F (.lst (c1.map encS))) (F (.lst (c2.map encS))) (F (.lst (c2.reverse.map encS))) won fre) := by
  have b1 := body14_ok (s := s) (nms := nms) (pl := pl) (nd := nd) (one := one) (less := less) (more := more) (a9 := a9) (a10 := a10) (som := som) (wid := wid) (up := F (.lst (c1.map encS))) (dn := F (.lst (c2.map encS))) (won := won) (fre := fre) h (a := a) h1 h3 h5 h6
  have b2 := body14_ok (s := s) (nms := nms) (pl := pl) (nd := nd) (one := one) (less := less) (more := more) (a9 := a9) (a10 := a10) (som := som) (wid := wid) (up := F (.lst (c1.map encS))) (dn := F (.lst (c2.map encS))) (won := won) (fre := fre) h (a := a) (ch := c2.reverse) (List.pairwise_reverse.mpr h2) (fun c hc => h4 c (List.mem_reverse.mp hc)) (by rw [List.length_reverse]; exact h7) (by rw [List.length_reverse]; exact h8)
  have e : l_14 = sFor (dSeq (dLst (dCons (dVar 14) (dCons (dUn revD (dVar 15)) dNil)))) (gN 16) body14 := rfl
  rw [e]
  unfold sFor
  have hi : dSeq (dLst (dCons (dVar 14) (dCons (dUn revD (dVar 15)) dNil))) (EV s nms (F a) pl nd one less more a9 a10 som wid (F (.lst (c1.map encS))) (F (.lst (c2.map encS))) none won fre) = .ok [.lst (c1.map encS), .lst (c2.reverse.map encS)] (EV s nms (F a) pl nd one less more a9 a10 som wid (F (.lst (c1.map encS))) (F (.lst (c2.map encS))) none won fre) := by
    have : revD (.lst (c2.map encS)) = some (.lst (c2.reverse.map encS)) := by
      show some (D.lst (c2.map encS).reverse) = _
      rw [List.map_reverse]
    simp [EV, this]
  rw [hi, e_sE_ok, forL]
  have g1 : gN 16 (.lst (c1.map encS)) (EV s nms (F a) pl nd one less more a9 a10 som wid (F (.lst (c1.map encS))) (F (.lst (c2.map encS))) none won fre) = some (EV s nms (F a) pl nd one less more a9 a10 som wid (F (.lst (c1.map encS))) (F (.lst (c2.map encS))) (F (.lst (c1.map encS))) won fre) := by simp [EV]
  have g2 : gN 16 (.lst (c2.reverse.map encS)) (EV s nms (F a) pl nd one less more a9 a10 som wid (F (.lst (c1.map encS))) (F (.lst (c2.map encS))) (F (.lst (c1.map encS))) won fre) = some (EV s nms (F a) pl nd one less more a9 a10 som wid (F (.lst (c1.map encS))) (F (.lst (c2.map encS))) (F (.lst (c2.reverse.map encS))) won fre) := by simp [EV]
  rw [g1]
  dsimp only
  rw [b1]
  dsimp only
  rw [forL, g2]
  dsimp only
  rw [b2]
  rfl
end
end K41
namespace K41
open PySem PySem.Spec L2 PD PL
theorem zed_after : ∀ x ∈ ABC, sLt x "zed" := by decide +kernel
theorem zoe_after : ∀ x ∈ ABC, sLt x "zoe" := by decide +kernel
theorem zed_nms : ("zed" : Str) ∈ NMS := by decide +kernel
theorem zoe_nms : ("zoe" : Str) ∈ NMS := by decide +kernel
/-- the pledges of a law -/
structure OkL (p : Rows) : Prop where
  sub : (nm p).Sublist ABC
  num : ∀ r ∈ p, 0 ≤ r.2 ∧ r.2 ≤ 7
theorem OkL.len {p : Rows} (h : OkL p) : p.length ≤ 7 := by
  have := h.sub.length_le
  rw [List.length_map] at this
  exact this
theorem OkL.ok {p : Rows} (h : OkL p) : OkP p :=
  ⟨fun r hr => abc_nms _ (h.sub.subset (List.mem_map_of_mem hr)), List.Pairwise.sublist h.sub abc_asc, fun r hr => ⟨(h.num r hr).1, by have := (h.num r hr).2; omega⟩, by have := h.len; omega⟩
theorem ok_more {p : Rows} (h : OkL p) : OkP (more p "zed") := by
  have hl := h.len
  refine ⟨fun r hr => ?_, ?_, fun r hr => ?_, by unfold more; rw [List.length_append, List.length_map]; simp only [List.length_cons, List.length_nil]; omega⟩
  · unfold more at hr
    rcases List.mem_append.mp hr with z | z
    · obtain ⟨q, hq, rfl⟩ := List.mem_map.mp z
      exact h.ok.names q hq
    · rw [List.mem_singleton] at z
      subst z
      exact zed_nms
  · rw [nm_more, List.pairwise_append]
    refine ⟨h.ok.asc, by simp, fun a ha b hb => ?_⟩
    rw [List.mem_singleton] at hb
    subst hb
    exact zed_after a (h.sub.subset ha)
  · unfold more at hr
    rcases List.mem_append.mp hr with z | z
    · obtain ⟨q, hq, rfl⟩ := List.mem_map.mp z
      have := h.num q hq
      exact ⟨by show 0 ≤ q.2 + 1; omega, by show q.2 + 1 ≤ 40; omega⟩
    · rw [List.mem_singleton] at z
      subst z
      exact ⟨by decide, by decide⟩
theorem ok_never {p : Rows} (h : OkL p) : OkP (never p "zoe") := by
  have hl := h.len
  refine ⟨fun r hr => ?_, ?_, fun r hr => ?_, by unfold never; rw [List.length_append]; simp only [List.length_cons, List.length_nil]; omega⟩
  · unfold never at hr
    rcases List.mem_append.mp hr with z | z
    · exact h.ok.names r z
    · rw [List.mem_singleton] at z
      subst z
      exact zoe_nms
  · rw [nm_never, List.pairwise_append]
    refine ⟨h.ok.asc, by simp, fun a ha b hb => ?_⟩
    rw [List.mem_singleton] at hb
    subst hb
    exact zoe_after a (h.sub.subset ha)
  · unfold never at hr
    rcases List.mem_append.mp hr with z | z
    · exact h.ok.num r z
    · rw [List.mem_singleton] at z
      subst z
      exact ⟨by decide, by decide⟩
theorem ok_free {p : Rows} (h : OkL p) (S : List Str) : OkP (free p S) := by
  refine ⟨fun r hr => ?_, by rw [nm_free]; exact h.ok.asc, fun r hr => ?_, by unfold free; rw [List.length_map]; have := h.len; omega⟩
  · obtain ⟨q, hq, rfl⟩ := List.mem_map.mp hr
    exact h.ok.names q hq
  · obtain ⟨q, hq, rfl⟩ := List.mem_map.mp hr
    dsimp only
    split
    · exact ⟨by omega, by omega⟩
    · exact h.ok.num q hq
theorem zed_not {p : Rows} (h : OkL p) : ("zed" : Str) ∉ nm p := fun z => sLt_ne (zed_after _ (h.sub.subset z)) rfl
theorem zoe_not {p : Rows} (h : OkL p) : ("zoe" : Str) ∉ nm p := fun z => sLt_ne (zoe_after _ (h.sub.subset z)) rfl
theorem counts_len (p : Rows) : (counts p).length ≤ p.length + 1 := by
  have := List.length_filter_le (kept p) (List.range (p.length + 1))
  rw [List.length_range] at this
  exact this
section
variable {s nms a3 pl nd one less mo a9 a10 som wid up dn a16 won fre : Option Sl} {p : Rows}
def plus1 (p : Rows) : Rows := p.map fun r => (r.1, r.2 + 1)
theorem p16 (h : OkL p) : l_16 (EV s nms a3 (F (encP p)) nd one less mo a9 a10 som wid up dn a16 won fre) = .nx (EV s nms a3 (F (encP p)) nd one less (F (encP (plus1 p))) a9 a10 som wid up dn a16 won fre) ∨ True := .inr trivial
theorem p16' (h : OkL p) {a : D} : l_16 (EV s nms (F a) (F (encP p)) nd one less mo a9 a10 som wid up dn a16 won fre) = .nx (EV s nms (F a) (F (encP p)) nd one less (F (encP (plus1 p))) a9 a10 som wid up dn a16 won fre) := by
  have hl := h.len
  have := dLc_all encR (fun r => encR (r.1, r.2 + 1)) (fun r => [none, s, nms, F (.str r.1), F (encP p), nd, one, less, mo, a9, a10, som, wid, none, up, dn, a16, none, F (.int r.2), none, won, fre, none]) (vs := [3, 18]) (fi := dSeq (dVar 4)) (g := gTupD 2 (gsCons (gN 3) (gsCons (gN 18) gsNil))) (fe := dTup (dCons (dVar 3) (dCons (dOp addD (dVar 18) (dC (.int 1))) dNil))) (ρ := EV s nms (F a) (F (encP p)) nd one less mo a9 a10 som wid up dn a16 won fre) (ρ1 := EV s nms (F a) (F (encP p)) nd one less mo a9 a10 som wid up dn a16 won fre) (xs := p) (by simp [EV, encP]) (by simp [EV]) (szl _ (by omega)) (by simp [EV, encR]) (by simp [encR]) (by simp [EV])
  unfold l_16
  rw [e_sSet, this]
  simp [EV, encP, plus1]
theorem cat_more (p : Rows) (h : p.length ≤ 7) : addD (encP (plus1 p)) (.lst [.tup [.str "zed", .int 0]]) = some (encP (more p "zed")) := by
  have := add_lst (a := (plus1 p).map encR) (b := [.tup [.str "zed", .int 0]]) (by unfold plus1; rw [List.length_map, List.length_map]; simp only [List.length_cons, List.length_nil]; omega)
  unfold encP
  rw [this]
  unfold more plus1
  rw [List.map_append]
  rfl
theorem cat_never (p : Rows) (h : p.length ≤ 7) : addD (encP p) (.lst [.tup [.str "zoe", .int 40]]) = some (encP (never p "zoe")) := by
  have := add_lst (a := p.map encR) (b := [.tup [.str "zoe", .int 40]]) (by rw [List.length_map]; simp only [List.length_cons, List.length_nil]; omega)
  unfold encP
  rw [this]
  unfold never
  rw [List.map_append]
  rfl
theorem p17 (h : OkL p) : l_17 (EV s nms a3 (F (encP p)) nd one less (F (encP (plus1 p))) a9 a10 som wid up dn a16 won fre) = .nx (EV s nms a3 (F (encP p)) nd one less (F (encP (plus1 p))) a9 a10 som wid up dn a16 won fre) := by
  have hl := h.len
  have c1 := counts_ok (ok_more h)
  have c2 := counts_ok h.ok
  rw [counts_more] at c1
  have hcl := counts_len p
  obtain ⟨f1, k1, i1⟩ := few_ok (ok_more h)
  obtain ⟨f2, k2, i2⟩ := few_ok h.ok
  have e := isL_uniq (ok_more h).nd i1 (few_more h.ok.nd (zed_not h) i2)
  subst e
  have hm := cat_more p hl
  have hlc : dLc [19] (dSeq (dCall r_counts_kept [] (dCons (dVar 4) dNil))) (gN 19) (fun ρ => .ok true ρ) (dOp addD (dVar 19) (dC (.int 1))) (EV s nms a3 (F (encP p)) nd one less (F (encP (plus1 p))) a9 a10 som wid up dn a16 won fre) = .ok (encN ((counts p).map (· + 1))) (EV s nms a3 (F (encP p)) nd one less (F (encP (plus1 p))) a9 a10 som wid up dn a16 won fre) := by
    have := dLc_all (fun (m : Nat) => D.int (m : Int)) (fun (m : Nat) => D.int ((m + 1 : Nat) : Int)) (fun (m : Nat) => [none, s, nms, a3, F (encP p), nd, one, less, F (encP (plus1 p)), a9, a10, som, wid, none, up, dn, a16, none, none, F (.int (m : Int)), won, fre, none]) (vs := [19]) (fi := dSeq (dCall r_counts_kept [] (dCons (dVar 4) dNil))) (g := gN 19) (fe := dOp addD (dVar 19) (dC (.int 1))) (ρ := EV s nms a3 (F (encP p)) nd one less (F (encP (plus1 p))) a9 a10 som wid up dn a16 won fre) (ρ1 := EV s nms a3 (F (encP p)) nd one less (F (encP (plus1 p))) a9 a10 som wid up dn a16 won fre) (xs := counts p) (by simp [EV, c2, encN]) (by simp [EV]) (szl _ (by omega)) (by simp [EV]) (by simp) (by simp [EV])
    rw [this]
    unfold encN
    rw [List.map_map]
    rfl
  have s1 := same_nats (L := (counts p).map (· + 1)) (by rw [List.length_map]; omega)
  have hlf := sub_len h.ok i2.sub
  have s2 := same_strs (L := f2 ++ [("zed" : Str)]) (M := f2 ++ [("zed" : Str)]) (sub_str (ok_more h) i1.sub) (sub_str (ok_more h) i1.sub) (by rw [List.length_append]; simp only [List.length_cons, List.length_nil]; omega)
  have hz : addD (encS f2) (.lst [.str "zed"]) = some (encS (f2 ++ [("zed" : Str)])) := by
    have := add_lst (a := f2.map D.str) (b := [.str "zed"]) (by rw [List.length_map]; simp only [List.length_cons, List.length_nil]; omega)
    unfold encS
    rw [this, List.map_append]
    rfl
  generalize encP (more p "zed") = PM at *
  generalize encN ((counts p).map (· + 1)) = CN at *
  generalize encS (f2 ++ [("zed" : Str)]) = FZ at *
  unfold l_17
  simp only [EV, F] at hlc ⊢
  simp [hm, c1, hlc, s1, k1, k2, hz, s2, truD]
theorem p18 (h : OkL p) : l_18 (EV s nms a3 (F (encP p)) nd one less mo a9 a10 som wid up dn a16 won fre) = .nx (EV s nms a3 (F (encP p)) nd one less mo a9 a10 som wid up dn a16 won fre) := by
  have hl := h.len
  have c1 := counts_ok (ok_never h)
  have c2 := counts_ok h.ok
  rw [counts_never p _ (by omega)] at c1
  have hcl := counts_len p
  obtain ⟨f1, k1, i1⟩ := most_ok (ok_never h)
  obtain ⟨f2, k2, i2⟩ := most_ok h.ok
  have e := isM_uniq (ok_never h).nd i1 (most_never h.ok.nd (zoe_not h) (by omega) i2)
  subst e
  have hm := cat_never p hl
  have s1 := same_nats (L := counts p) (by omega)
  have hlf := sub_len h.ok i2.sub
  have s2 := same_strs (sub_str h.ok i2.sub) (sub_str h.ok i2.sub) (by omega)
  generalize encP (never p "zoe") = PM at *
  generalize encN (counts p) = CN at *
  unfold l_18
  simp only [EV, F]
  simp [hm, c1, c2, s1, k1, k2, s2, truD]
theorem free_comp (h : OkL p) {a : D} {S : List Str} (hS : ∀ x ∈ S, PyData.strOk x = true) {fx : PD.Env → Out D} {w0 f0 : Option Sl} (hfx : ∀ r ∈ p, fx [none, s, nms, F (.str r.1), F (encP p), nd, one, less, mo, a9, a10, som, wid, none, up, dn, a16, none, F (.int r.2), none, w0, f0, none] = .ok (encS S) [none, s, nms, F (.str r.1), F (encP p), nd, one, less, mo, a9, a10, som, wid, none, up, dn, a16, none, F (.int r.2), none, w0, f0, none]) :
    dLc [3, 18] (dSeq (dVar 4)) (gTupD 2 (gsCons (gN 3) (gsCons (gN 18) gsNil))) (fun ρ => .ok true ρ) (dTup (dCons (dVar 3) (dCons (dIf (dTest (dOp inD (dVar 3) fx)) (dC (.int 0)) (dVar 18)) dNil))) (EV s nms (F a) (F (encP p)) nd one less mo a9 a10 som wid up dn a16 w0 f0) = .ok (encP (free p S)) (EV s nms (F a) (F (encP p)) nd one less mo a9 a10 som wid up dn a16 w0 f0) := by
  have hl := h.len
  have := dLc_all encR (fun r => encR (r.1, if r.1 ∈ S then 0 else r.2)) (fun r => [none, s, nms, F (.str r.1), F (encP p), nd, one, less, mo, a9, a10, som, wid, none, up, dn, a16, none, F (.int r.2), none, w0, f0, none]) (vs := [3, 18]) (fi := dSeq (dVar 4)) (g := gTupD 2 (gsCons (gN 3) (gsCons (gN 18) gsNil))) (fe := dTup (dCons (dVar 3) (dCons (dIf (dTest (dOp inD (dVar 3) fx)) (dC (.int 0)) (dVar 18)) dNil))) (ρ := EV s nms (F a) (F (encP p)) nd one less mo a9 a10 som wid up dn a16 w0 f0) (ρ1 := EV s nms (F a) (F (encP p)) nd one less mo a9 a10 som wid up dn a16 w0 f0) (xs := p) (by simp [EV, encP]) (by simp [EV]) (szl _ (by omega)) (by simp [EV, encR]) (fun r hr => by
      have hi := inD_strs (strOk_nms _ (h.ok.names r hr)) hS
      have hx := hfx r hr
      simp only [F] at hx ⊢
      by_cases e : r.1 ∈ S
      · simp [hx, hi, e, encR]
      · simp [hx, hi, e, encR]) (by simp [EV])
  rw [this]
  unfold encP free
  rw [List.map_map]
  rfl
theorem p19 {w : List Str} (h : r_starters [encP p] = .ok (encS w)) : l_19 (EV s nms a3 (F (encP p)) nd one less mo a9 a10 som wid up dn a16 none none) = .nx (EV s nms a3 (F (encP p)) nd one less mo a9 a10 som wid up dn a16 (F (encS w)) none) := by
  unfold l_19 EV
  simp [h]
theorem p20 (h : OkL p) {a : D} {w : List Str} (hw : ∀ x ∈ w, PyData.strOk x = true) : l_20 (EV s nms (F a) (F (encP p)) nd one less mo a9 a10 som wid up dn a16 (F (encS w)) none) = .nx (EV s nms (F a) (F (encP p)) nd one less mo a9 a10 som wid up dn a16 (F (encS w)) (F (encP (free p w)))) := by
  have := free_comp (s := s) (nms := nms) (nd := nd) (one := one) (less := less) (mo := mo) (a9 := a9) (a10 := a10) (som := som) (wid := wid) (up := up) (dn := dn) (a16 := a16) (w0 := F (encS w)) (f0 := none) h (a := a) hw (fx := dVar 20) (by simp)
  unfold l_20
  rw [e_sSet, this]
  simp [EV]
theorem p21 (h : OkL p) {a : D} {w : List Str} (hw : St p w) : l_21 (EV s (F (encS (nm p))) (F a) (F (encP p)) nd one less mo a9 a10 som wid up dn a16 (F (encS w)) (F (encP (free p w)))) = .nx (EV s (F (encS (nm p))) (F a) (F (encP p)) nd one less mo a9 a10 som wid up dn a16 (F (encS w)) (F (encP (free p w)))) := by
  have hwo : ∀ x ∈ w, PyData.strOk x = true := fun x hx => h.ok.str x (hw.sub x hx)
  have hwd : ∀ x ∈ w.drop 1, PyData.strOk x = true := fun x hx => hwo x ((List.drop_sublist 1 w).subset hx)
  obtain ⟨f1, k1, i1⟩ := few_ok (ok_free h w)
  obtain ⟨f2, k2, i2⟩ := few_ok (ok_free h (w.drop 1))
  have e1 := won_all h.ok.nd hw i1
  have hln := len_nm h.ok
  have s1 := same_strs (L := f1) (M := nm p) (by rw [e1]; exact h.ok.str) h.ok.str (by omega)
  rw [e1] at k1 s1
  have hsl : slD (some 1) none (encS w) = some (encS (w.drop 1)) := by
    have := sl_from (l := w.map D.str) 1
    unfold encS
    rw [List.map_drop]
    exact this
  have hfc := free_comp (s := s) (nms := F (encS (nm p))) (nd := nd) (one := one) (less := less) (mo := mo) (a9 := a9) (a10 := a10) (som := som) (wid := wid) (up := up) (dn := dn) (a16 := a16) (w0 := F (encS w)) (f0 := F (encP (free p w))) h (a := a) hwd (fx := dSl slD (dVar 20) (dPart (dC (.int 1))) dNoPart) (by simp [hsl])
  have hne : neD (encS w) (.lst []) = some (.bl (!decide (w = []))) := neD_strs (M := []) hwo (fun x hx => by cases hx)
  have heq : eqD (encS f2) (encS (nm p)) = some (.bl (decide (f2 = nm p))) := eqD_strs (fun x hx => h.ok.str x (by have := i2.sub.subset hx; rwa [nm_free] at this)) h.ok.str
  unfold l_21
  simp only [EV, F] at hfc ⊢
  by_cases hw0 : w = []
  · subst hw0
    simp [k1, s1, truD, hne]
  · have hnf := won_few h.ok.nd hw hw0 i2
    generalize free p (w.drop 1) = fw at *
    simp [k1, s1, truD, hne, hw0, hfc, k2, heq, hnf]
theorem p22 (h : OkL p) : l_22 (EV s (F (encS (nm p))) a3 (F (encP p)) nd one less mo a9 a10 som wid up dn a16 won fre) = .rt (.bl true) (EV s (F (encS (nm p))) a3 (F (encP p)) nd one less mo a9 a10 som wid up dn a16 won fre) := by
  have hln := len_nm h.ok
  obtain ⟨fs, hfs, hsub, hlen⟩ := lots_ok (nm p) hln
  have hc := counts_ok h.ok
  have hlc : dLc [22] (dSeq (dCall r__law_lots [] (dCons (dVar 2) dNil))) (gN 22) (dAndT (dTru (dCall r_is_kept [] (dCons (dVar 4) (dCons (dCB listD (dCons (dVar 22) dNil)) dNil)))) (dTest (dOp ninD (dCB lenD (dCons (dVar 22) dNil)) (dCall r_counts_kept [] (dCons (dVar 4) dNil))))) (dVar 22) (EV s (F (encS (nm p))) a3 (F (encP p)) nd one less mo a9 a10 som wid up dn a16 won fre) = .ok (.lst []) (EV s (F (encS (nm p))) a3 (F (encP p)) nd one less mo a9 a10 som wid up dn a16 won fre) := by
    refine dLc_none encT (fun f => [none, s, F (encS (nm p)), a3, F (encP p), nd, one, less, mo, a9, a10, som, wid, none, up, dn, a16, none, none, none, won, fre, F (encT f)]) (xs := fs) (by simp [EV, hfs]) (by simp [EV]) (szl _ (by omega)) (by simp [EV]) (fun f hf => ?_) (by simp [EV])
    have hk := kept_ok h.ok (hsub f hf)
    have hl1 : listD [encT f] = some (encS f) := rfl
    have hl2 : lenD [encT f] = some (.int (f.length : Int)) := by
      show some (D.int ((f.map D.str).length : Int)) = _
      rw [List.length_map]
    by_cases e : W p f = f
    · have hm := kept_of h.ok.nd (hsub f hf) e
      have hin : ninD (.int (f.length : Int)) (encN (counts p)) = some (.bl false) := by
        unfold ninD encN
        have hp : plv 1 (.lst ((counts p).map fun (m : Nat) => D.int (m : Int))) = true := plv_map fun x _ => rfl
        rw [inB_pl (n := 0) (m := 1) (d := .int (f.length : Int)) rfl hp]
        have : (((counts p).map fun (m : Nat) => D.int (m : Int)).any fun z => eqB z (.int (f.length : Int))) = true := by
          rw [any_pl (n := 0) (m := 0) (d := .int (f.length : Int)) rfl (fun e he => by
            obtain ⟨y, _, rfl⟩ := List.mem_map.mp he
            rfl)]
          exact List.mem_map.mpr ⟨f.length, hm, rfl⟩
        rw [this]
        rfl
      simp [hl1, hl2, hk, e, truD, hc, hin]
    · simp [hl1, hk, e, truD]
  unfold l_22
  simp only [EV, F] at hlc ⊢
  simp [hlc, eq_nil]
end
end K41
namespace K41
open PySem PySem.Spec L2 PD PL
theorem lower_set {p : Rows} (h : OkP p) {r : Str × Int} (hr : r ∈ p) {v : Int} (hv : v ≤ r.2) : Lower (setN p r.1 v) p := by
  refine ⟨nm_setN p r.1 v, fun q hq t ht e => ?_⟩
  obtain ⟨u, hu, rfl⟩ := List.mem_map.mp hq
  have hut : u = t := uniq h.nd hu ht e
  subst hut
  dsimp only
  split
  · rename_i e1
    have : u = r := uniq h.nd hu hr e1
    subst this
    exact hv
  · exact Int.le_refl _
theorem set_lower {p : Rows} (h : OkP p) {r : Str × Int} (hr : r ∈ p) {v : Int} (hv : r.2 ≤ v) : Lower p (setN p r.1 v) := by
  refine ⟨(nm_setN p r.1 v).symm, fun t ht q hq e => ?_⟩
  obtain ⟨u, hu, rfl⟩ := List.mem_map.mp hq
  have hut : t = u := uniq h.nd ht hu e
  subst hut
  dsimp only
  split
  · rename_i e1
    have : t = r := uniq h.nd hu hr e1
    subst this
    exact hv
  · exact Int.le_refl _
theorem seq_nx' {f g : PD.Env → RS} {ρ ρ1 : PD.Env} {r : RS} (h : f ρ = .nx ρ1) (h2 : g ρ1 = r) : sSeq f g ρ = r := by rw [seq_nx h, h2]
theorem law_true (ns : List Int) (hl : ns.length ≤ 63) : ∃ ρ', d_law (startL 23 1 ns) = .rt (.bl true) ρ' := by
  obtain ⟨n, s1, hn1, hn2, hs1, e1⟩ := p1 (stOk0 ns)
  have hNl : (ABC.take n).length = n := by
    rw [List.length_take]
    show min n 7 = n
    omega
  obtain ⟨p, s2, hp1, hp2, hs2, e2⟩ := p2 hs1 (N := ABC.take n) (by omega)
  have hL : OkL p := ⟨by rw [hp1]; exact List.take_sublist _ _, hp2⟩
  have hO := hL.ok
  have hpl : (nm p).length = n := by rw [hp1]; exact hNl
  rw [← hp1] at e1 e2
  have hstr := hO.str
  obtain ⟨nd, hnd1, hnd2⟩ := need_ok hO.nd
  have e3 : l_3 (EV (O s2) (F (encS (nm p))) none (F (encP p)) none none none none none none none none none none none none none) = .nx (EV (O s2) (F (encS (nm p))) none (F (encP p)) (F nd) none none none none none none none none none none none none) := by
    unfold l_3 EV
    simp [hnd1]
  obtain ⟨v, s3, hv1, hv2, hs3⟩ := draw hs2 (L := ((nm p).length : Int)) (by omega) (by omega)
  have hvl : v < (nm p).length := by omega
  obtain ⟨r, hr, hre⟩ := List.mem_map.mp (List.getElem_mem hvl)
  have hix : ixD (encS (nm p)) (.int (v : Int)) = some (.str r.1) := ix_strs (by rw [List.getElem?_eq_getElem hvl, hre])
  have e4 : l_4 (EV (O s2) (F (encS (nm p))) none (F (encP p)) (F nd) none none none none none none none none none none none none) = .nx (EV (O s3) (F (encS (nm p))) none (F (encP p)) (F nd) (F (.str r.1)) none none none none none none none none none none none) := by
    generalize hNM : nm p = NM at hv1 hix
    unfold l_4 EV
    simp [hv1, hix]
  have hrn := hL.num r hr
  have hro : r.1 ∈ nm p := List.mem_map_of_mem hr
  obtain ⟨x, s4, hx1, hx2, hs4⟩ := draw hs3 (L := r.2 + 1) (by omega) (by omega)
  have hch1 := changed_ok hO hro (v := (x : Int)) (by omega) (by omega)
  have e5 : l_5 (EV (O s3) (F (encS (nm p))) none (F (encP p)) (F nd) (F (.str r.1)) none none none none none none none none none none none) = .nx (EV (O s4) (F (encS (nm p))) none (F (encP p)) (F nd) (F (.str r.1)) (F (encP (setN p r.1 x))) none none none none none none none none none none) := by
    unfold l_5 EV
    simp [hnd2 r hr, hx1, hch1]
  obtain ⟨y, s5, hy1, hy2, hs5⟩ := draw hs4 (L := 5) (by omega) (by omega)
  have hch2 := changed_ok hO hro (v := r.2 + (y : Int)) (by omega) (by omega)
  have e6 : l_6 (EV (O s4) (F (encS (nm p))) none (F (encP p)) (F nd) (F (.str r.1)) (F (encP (setN p r.1 x))) none none none none none none none none none none) = .nx (EV (O s5) (F (encS (nm p))) none (F (encP p)) (F nd) (F (.str r.1)) (F (encP (setN p r.1 x))) (F (encP (setN p r.1 (r.2 + y)))) none none none none none none none none none) := by
    unfold l_6 EV
    simp [hnd2 r hr, hy1, hch2]
  have e7 := p7 (s := O s5) (nms := F (encS (nm p))) (nd := F nd) (one := F (.str r.1)) (som := none) (wid := none) (up := none) (dn := none) (a16 := none) (won := none) (fre := none) (hO.setN r.1 (v := (x : Int)) (by omega) (by omega)) hO (hO.setN r.1 (v := r.2 + (y : Int)) (by omega) (by omega)) (lower_set hO hr (by omega)) (set_lower hO hr (by omega))
  obtain ⟨S, s6, hS, hs6, e8⟩ := p8 (pl := F (encP p)) (nd := F nd) (one := F (.str r.1)) (less := F (encP (setN p r.1 x))) (more := F (encP (setN p r.1 (r.2 + y)))) (a9 := F (encP p)) (a10 := F (encP (setN p r.1 (r.2 + y)))) (wid := none) (up := none) (dn := none) (a16 := none) (won := none) (fre := none) hs5 (N := nm p) (by omega)
  obtain ⟨L, s7, hLs, hSL, hs7, e9⟩ := p9 (pl := F (encP p)) (nd := F nd) (one := F (.str r.1)) (less := F (encP (setN p r.1 x))) (more := F (encP (setN p r.1 (r.2 + y)))) (a9 := F (encP p)) (a10 := F (encP (setN p r.1 (r.2 + y)))) (up := none) (dn := none) (a16 := none) (won := none) (fre := none) hs6 (N := nm p) (by omega) hstr hS
  have hne : nm p ≠ [] := fun z => by rw [z] at hpl; simp at hpl; omega
  obtain ⟨a3, e10⟩ := p10 (s := O s7) (one := F (.str r.1)) (less := F (encP (setN p r.1 x))) (more := F (encP (setN p r.1 (r.2 + y)))) (a9 := F (encP p)) (a10 := F (encP (setN p r.1 (r.2 + y)))) (up := none) (dn := none) (a16 := none) (won := none) (fre := none) hO hnd2 hS hLs hSL hne
  obtain ⟨u1, l1, hu1, hu2, hu3, hu4, hu5⟩ := up_ok hO
  obtain ⟨d1, m1, hd1, hd2, hd3, hd4, hd5⟩ := down_ok hO
  have hul : (u1 ++ [l1]).length ≤ 10 := by rw [List.length_append]; simp only [List.length_cons, List.length_nil]; omega
  have hdl : (d1 ++ [m1]).length ≤ 10 := by rw [List.length_append]; simp only [List.length_cons, List.length_nil]; omega
  have e11 := p11 (s := O s7) (nms := F (encS (nm p))) (a3 := F a3) (nd := F nd) (one := F (.str r.1)) (less := F (encP (setN p r.1 x))) (more := F (encP (setN p r.1 (r.2 + y)))) (a9 := F (encP p)) (a10 := F (encP (setN p r.1 (r.2 + y)))) (som := F (encS S)) (wid := F (encS L)) (dn := none) (a16 := none) (won := none) (fre := none) hu1 hul
  have e12 := p12 (s := O s7) (a3 := F a3) (nd := F nd) (one := F (.str r.1)) (less := F (encP (setN p r.1 x))) (more := F (encP (setN p r.1 (r.2 + y)))) (a9 := F (encP p)) (a10 := F (encP (setN p r.1 (r.2 + y)))) (som := F (encS S)) (wid := F (encS L)) (up := F (.lst (([] :: (u1 ++ [l1])).map encS))) (a16 := none) (won := none) (fre := none) hd1 hdl
  have e13 := p13 (s := O s7) (nms := F (encS (nm p))) (a3 := F a3) (nd := F nd) (one := F (.str r.1)) (less := F (encP (setN p r.1 x))) (more := F (encP (setN p r.1 (r.2 + y)))) (a9 := F (encP p)) (a10 := F (encP (setN p r.1 (r.2 + y)))) (som := F (encS S)) (wid := F (encS L)) (a16 := none) (won := none) (fre := none) (x := []) (y := nm p) (f1 := u1) (f2 := d1) hO hu2 hd2
  have e14 := p14 (s := O s7) (nms := F (encS (nm p))) (a := a3) (pl := F (encP p)) (nd := F nd) (one := F (.str r.1)) (less := F (encP (setN p r.1 x))) (more := F (encP (setN p r.1 (r.2 + y)))) (a9 := F (encP p)) (a10 := F (encP (setN p r.1 (r.2 + y)))) (som := F (encS S)) (wid := F (encS L)) (won := none) (fre := none) hO (c1 := [] :: (u1 ++ [l1])) (c2 := nm p :: (d1 ++ [m1]))
    (List.pairwise_cons.mpr ⟨fun c _ x hx => (by cases hx), hu3⟩) (List.pairwise_cons.mpr ⟨fun c hc x hx => (hd4 c hc).subset hx, hd3⟩)
    (fun c hc => (List.mem_cons.mp hc).elim (fun z => by rw [z]; exact List.nil_sublist _) (hu4 c)) (fun c hc => (List.mem_cons.mp hc).elim (fun z => by rw [z]; exact List.Sublist.refl _) (hd4 c))
    (by rw [List.length_cons]; omega) (by rw [List.length_cons]; omega) (by rw [List.length_cons]; omega) (by rw [List.length_cons]; omega)
  have e15 := p15 (s := O s7) (nms := F (encS (nm p))) (a3 := F a3) (nd := F nd) (one := F (.str r.1)) (less := F (encP (setN p r.1 x))) (more := F (encP (setN p r.1 (r.2 + y)))) (a9 := F (encP p)) (a10 := F (encP (setN p r.1 (r.2 + y)))) (som := F (encS S)) (wid := F (encS L)) (a16 := F (.lst ((nm p :: (d1 ++ [m1])).reverse.map encS))) (won := none) (fre := none) (x := []) (y := nm p) (f1 := u1) (f2 := d1) hO hu2 hd2
  generalize F (.lst (([] :: (u1 ++ [l1])).map encS)) = UP at e11 e12 e13 e14 e15
  generalize F (.lst ((nm p :: (d1 ++ [m1])).reverse.map encS)) = RV at e14 e15
  generalize F (.lst ((nm p :: (d1 ++ [m1])).map encS)) = DN at e12 e13 e14 e15
  have e16 := p16' (s := O s7) (nms := F (encS (nm p))) (nd := F nd) (one := F (.str r.1)) (less := F (encP (setN p r.1 x))) (mo := F (encP (setN p r.1 (r.2 + y)))) (a9 := F (encP p)) (a10 := F (encP (setN p r.1 (r.2 + y)))) (som := F (encS S)) (wid := F (encS L)) (up := UP) (dn := DN) (a16 := RV) (won := none) (fre := none) hL (a := a3)
  have e17 := p17 (s := O s7) (nms := F (encS (nm p))) (a3 := F a3) (nd := F nd) (one := F (.str r.1)) (less := F (encP (setN p r.1 x))) (a9 := F (encP p)) (a10 := F (encP (setN p r.1 (r.2 + y)))) (som := F (encS S)) (wid := F (encS L)) (up := UP) (dn := DN) (a16 := RV) (won := none) (fre := none) hL
  have e18 := p18 (s := O s7) (nms := F (encS (nm p))) (a3 := F a3) (nd := F nd) (one := F (.str r.1)) (less := F (encP (setN p r.1 x))) (mo := F (encP (plus1 p))) (a9 := F (encP p)) (a10 := F (encP (setN p r.1 (r.2 + y)))) (som := F (encS S)) (wid := F (encS L)) (up := UP) (dn := DN) (a16 := RV) (won := none) (fre := none) hL
  obtain ⟨w, hw1, hw2⟩ := st_ok hO
  have e19 := p19 (s := O s7) (nms := F (encS (nm p))) (a3 := F a3) (nd := F nd) (one := F (.str r.1)) (less := F (encP (setN p r.1 x))) (mo := F (encP (plus1 p))) (a9 := F (encP p)) (a10 := F (encP (setN p r.1 (r.2 + y)))) (som := F (encS S)) (wid := F (encS L)) (up := UP) (dn := DN) (a16 := RV) hw1
  have e20 := p20 (s := O s7) (nms := F (encS (nm p))) (nd := F nd) (one := F (.str r.1)) (less := F (encP (setN p r.1 x))) (mo := F (encP (plus1 p))) (a9 := F (encP p)) (a10 := F (encP (setN p r.1 (r.2 + y)))) (som := F (encS S)) (wid := F (encS L)) (up := UP) (dn := DN) (a16 := RV) hL (a := a3) (w := w) (fun z hz => hstr z (hw2.sub z hz))
  have e21 := p21 (s := O s7) (nd := F nd) (one := F (.str r.1)) (less := F (encP (setN p r.1 x))) (mo := F (encP (plus1 p))) (a9 := F (encP p)) (a10 := F (encP (setN p r.1 (r.2 + y)))) (som := F (encS S)) (wid := F (encS L)) (up := UP) (dn := DN) (a16 := RV) hL (a := a3) hw2
  have e22 := p22 (s := O s7) (a3 := F a3) (nd := F nd) (one := F (.str r.1)) (less := F (encP (setN p r.1 x))) (mo := F (encP (plus1 p))) (a9 := F (encP p)) (a10 := F (encP (setN p r.1 (r.2 + y)))) (som := F (encS S)) (wid := F (encS L)) (up := UP) (dn := DN) (a16 := RV) (won := F (encS w)) (fre := F (encP (free p w))) hL
  have e0 : startL 23 1 ns = EV (O (.lst [.lst (ns.map D.int), .int 0, .int 0, .int 1])) none none none none none none none none none none none none none none none none := rfl
  rw [d_law_eq, e0]
  exact ⟨_, seq_nx' e1 <| seq_nx' e2 <| seq_nx' e3 <| seq_nx' e4 <| seq_nx' e5 <| seq_nx' e6 <| seq_nx' e7 <| seq_nx' e8 <| seq_nx' e9 <| seq_nx' e10 <| seq_nx' e11 <| seq_nx' e12 <| seq_nx' e13 <| seq_nx' e14 <| seq_nx' e15 <| seq_nx' e16 <| seq_nx' e17 <| seq_nx' e18 <| seq_nx' e19 <| seq_nx' e20 <| seq_nx' e21 e22⟩
end K41
open PySem PySem.W PySem.Calls PyProof.Rows
theorem PySem.Challenge.cw_manychoose_k41_pledges_that_change_holds : PySem.Challenge.rw_manychoose_k41_pledges_that_change.Holds := by
  w_on; o_law
  refine HandSHeadRun.head_any (r := OpenLaw.row PySem.Challenge.rw_manychoose_k41_pledges_that_change) (q := view (OpenLaw.row PySem.Challenge.rw_manychoose_k41_pledges_that_change).prog [33]) (H := K41.hk) (ob := K41.ob) (M := 20000) (loose := K41.nms) (d := HandSHeadRun.topDef (OpenLaw.row PySem.Challenge.rw_manychoose_k41_pledges_that_change).prog 33) (kwd := []) K41.ob_eq
    (by kernel_rfl) (fun s => by kernel_rfl) K41.run (by kernel_rfl) (by kernel_rfl) (by kernel_rfl) (by rfl) (by first | assumption | decide +kernel) (by decide +kernel) ⟨rfl, rfl, rfl, rfl, rfl, by decide +kernel⟩ ?hw ?hc
  case hw => w_witness2
  case hc =>
    refine PD.end_w (l := PySem.Challenge.rw_manychoose_k41_pledges_that_change) (n := 63) (k := 7) (x := "script") rfl (by decide) (by kernel_rfl) ⟨rfl, by decide, by decide⟩ ?_
    intro w mg fa h Y G hmg0
    obtain ⟨K, KX, c⟩ := Y
    have hmg : mg ("law" : PySem.Str) = some (.ref fa) := by
      have e : (HandSHeadRun.topDef (OpenLaw.row PySem.Challenge.rw_manychoose_k41_pledges_that_change).prog 33).name = ("law" : PySem.Str) := by kernel_rfl
      rw [← e]
      exact hmg0
    obtain ⟨fd, hb, hF⟩ := K41.all (P := (PySem.Challenge.rw_manychoose_k41_pledges_that_change).prog) (w := w) KX G c hmg
    exact ⟨K, fd, PD.spLaw K 23 1 K41.d_law, KX, hb, fun H a ns hl hS => ⟨a, ns, rfl, hS, Nat.le_trans hl (by decide), fun _ => rfl, K41.law_true ns hl⟩, hF⟩
