import PyProof.Rows.All
import HandS.ForMost
import HandS.IsInst
import HandS.SortKw
import HandS.Star
import HandS.Zip
import HandS.Style
import HandS.Wide
import HandS.TupAny
import HandS.SortInts
import KE.KTupSum
import KE.KRevSl
import KE.GoesMore
import KE.GoesEnum
import HandS.NamedTupSort
import PyProof.Rows.SetFrom
import HandS.SetFor
import HandS.Strs
import HandS.TupMul
import HandS.Deep
import PySem.Challenge.RW_partleans_k65_across_gardens_ranks_and_h
set_option Elab.async false
set_option linter.all false
set_option maxRecDepth 100000
set_option maxHeartbeats 4000000
/-! DL: values without addresses over the hand layer: what an expression, a statement does as a function of slots. -/
namespace DL
open PySem L2
/-- a value told whole -/
inductive D where
  | non | bl (b : Bool) | int (i : Int) | str (x : Str) | ty (n : String) | obj (a : Addr)
  | tup (ds : List D) | lst (ds : List D) | fl (ds : List D)
mutual
/-- the value v of the heap G is d -/
inductive Rep (K : PySem.W.Frag) (G : Hp) : D → V → Prop
  | non : Rep K G .non .non
  | bl (b : Bool) : Rep K G (.bl b) (.bl b)
  | int (i : Int) : Rep K G (.int i) (.int i)
  | str (x : Str) : Rep K G (.str x) (.str x)
  | ty (n : String) : Rep K G (.ty n) (.ty n)
  | obj (a : Addr) : Rep K G (.obj a) (.ref a)
  | tup {a : Addr} {vs : List V} {ds : List D} : SqT K G a vs → RepL K G ds vs → Rep K G (.tup ds) (.ref a)
  | lst {a : Addr} {vs : List V} {ds : List D} : G a = some (.lst vs) → RepL K G ds vs → Rep K G (.lst ds) (.ref a)
  | fl {a : Addr} {vs : List V} {ds : List D} : SqL K G a vs → RepL K G ds vs → Rep K G (.fl ds) (.ref a)
inductive RepL (K : PySem.W.Frag) (G : Hp) : List D → List V → Prop
  | nil : RepL K G [] []
  | cons {d : D} {v : V} {ds : List D} {vs : List V} : Rep K G d v → RepL K G ds vs → RepL K G (d :: ds) (v :: vs)
end
theorem same_t {K : PySem.W.Frag} {H H' : Hp} {a : Addr} {xs : List V} (e : Same H H') (h : SqT K H a xs) : SqT K H' a xs := by
  rcases h with (h | ⟨o, h⟩) | h
  · exact .inl (.inl (e _ _ h))
  · exact .inl (.inr ⟨o, e _ _ h⟩)
  · exact .inr h
mutual
theorem Rep.mono {K : PySem.W.Frag} {G G' : Hp} (e : Same G G') : ∀ {d : D} {v : V}, Rep K G d v → Rep K G' d v
  | _, _, .non => .non
  | _, _, .bl b => .bl b
  | _, _, .int i => .int i
  | _, _, .str x => .str x
  | _, _, .ty n => .ty n
  | _, _, .obj a => .obj a
  | _, _, .tup h r => .tup (same_t e h) (RepL.mono e r)
  | _, _, .lst h r => .lst (e _ _ h) (RepL.mono e r)
  | _, _, .fl h r => .fl (e.seq h) (RepL.mono e r)
theorem RepL.mono {K : PySem.W.Frag} {G G' : Hp} (e : Same G G') : ∀ {ds : List D} {vs : List V}, RepL K G ds vs → RepL K G' ds vs
  | _, _, .nil => .nil
  | _, _, .cons h r => .cons (Rep.mono e h) (RepL.mono e r)
end
section
variable {K : PySem.W.Frag} {G : Hp}
theorem RepL.length : ∀ {ds : List D} {vs : List V}, RepL K G ds vs → ds.length = vs.length
  | _, _, .nil => rfl
  | _, _, .cons _ r => by simp [RepL.length r]
theorem RepL.get : ∀ {ds : List D} {vs : List V} {i : Nat} {v : V}, RepL K G ds vs → vs[i]? = some v → ∃ d, ds[i]? = some d ∧ Rep K G d v
  | _, _, _, _, .nil, e => by simp at e
  | _, _, 0, _, .cons r _, e => by simp at e; subst e; exact ⟨_, rfl, r⟩
  | _, _, i + 1, _, .cons _ t, e => by
    obtain ⟨d, h1, h2⟩ := RepL.get (i := i) t (by simpa using e)
    exact ⟨d, by simpa using h1, h2⟩
theorem RepL.getD : ∀ {ds : List D} {vs : List V} {i : Nat} {d : D}, RepL K G ds vs → ds[i]? = some d → ∃ v, vs[i]? = some v ∧ Rep K G d v
  | _, _, _, _, .nil, e => by simp at e
  | _, _, 0, _, .cons r _, e => by simp at e; subst e; exact ⟨_, rfl, r⟩
  | _, _, i + 1, _, .cons _ t, e => by
    obtain ⟨d, h1, h2⟩ := RepL.getD (i := i) t (by simpa using e)
    exact ⟨d, by simpa using h1, h2⟩
theorem RepL.app : ∀ {ds es : List D} {vs ws : List V}, RepL K G ds vs → RepL K G es ws → RepL K G (ds ++ es) (vs ++ ws)
  | _, _, _, _, .nil, s => s
  | _, _, _, _, .cons r t, s => .cons r (RepL.app t s)
theorem RepL.take : ∀ {ds : List D} {vs : List V} (n : Nat), RepL K G ds vs → RepL K G (ds.take n) (vs.take n)
  | _, _, 0, _ => .nil
  | _, _, _ + 1, .nil => .nil
  | _, _, n + 1, .cons r t => .cons r (RepL.take n t)
theorem RepL.drop : ∀ {ds : List D} {vs : List V} (n : Nat), RepL K G ds vs → RepL K G (ds.drop n) (vs.drop n)
  | _, _, 0, r => r
  | _, _, _ + 1, .nil => .nil
  | _, _, n + 1, .cons _ t => RepL.drop n t
theorem RepL.set {d : D} {v : V} (r : Rep K G d v) : ∀ {ds : List D} {vs : List V} (i : Nat), RepL K G ds vs → RepL K G (ds.set i d) (vs.set i v)
  | _, _, _, .nil => .nil
  | _, _, 0, .cons _ t => .cons r t
  | _, _, i + 1, .cons q t => .cons q (RepL.set r i t)
theorem RepL.rev {ds : List D} {vs : List V} (h : RepL K G ds vs) : RepL K G ds.reverse vs.reverse := by
  induction ds generalizing vs with
  | nil => cases h; exact .nil
  | cons d ds ih => cases h with | cons r t => simpa using (ih t).app (.cons r .nil)
theorem RepL.flat (n : Nat) {ds : List D} {vs : List V} (h : RepL K G ds vs) : RepL K G (List.replicate n ds).flatten (List.replicate n vs).flatten := by
  induction n with
  | zero => exact .nil
  | succ n ih => simpa [List.replicate_succ] using h.app ih
theorem RepL.ints : ∀ (ns : List Int), RepL K G (ns.map D.int) (ns.map V.int)
  | [] => .nil
  | n :: r => .cons (.int n) (RepL.ints r)
theorem RepL.of_ints : ∀ {ns : List Int} {vs : List V}, RepL K G (ns.map D.int) vs → vs = ns.map V.int
  | [], _, .nil => rfl
  | n :: r, _, .cons h t => by cases h; rw [RepL.of_ints t]; rfl
theorem RepL.bools : ∀ (ns : List Bool), RepL K G (ns.map D.bl) (ns.map V.bl)
  | [] => .nil
  | n :: r => .cons (.bl n) (RepL.bools r)
theorem RepL.of_bools : ∀ {ns : List Bool} {vs : List V}, RepL K G (ns.map D.bl) vs → vs = ns.map V.bl
  | [], _, .nil => rfl
  | n :: r, _, .cons h t => by cases h; rw [RepL.of_bools t]; rfl
end
/-! ### slots -/
inductive Sl where
  | no | v (d : D) | own (ds : List D) | io
structure S where
  e : List Sl
  m : List D
/-- what a run of a def keeps in sight: the heap at its entry, what is frozen there, the list that it may change -/
structure Bs where
  F : Hp
  G0 : Hp
  io : Option Addr
def SlR (K : PySem.W.Frag) (B : Bs) (G H : Hp) : Sl → Option V → Prop
  | .no, _ => True
  | .v d, o => ∃ v, o = some v ∧ Rep K G d v
  | .own ds, o => ∃ p vs, o = some (.ref p) ∧ H p = some (.lst vs) ∧ RepL K G ds vs ∧ G p = none ∧ B.F p = none
  | .io, o => ∃ p, o = some (.ref p) ∧ B.io = some p
structure Rp (K : PySem.W.Frag) (B : Bs) (G H : Hp) (σ : L2.St) (s : S) : Prop where
  sub : Same G H
  base : Same B.G0 G
  g0 : Same B.G0 B.F
  new : ∀ b o, G b = some o → B.G0 b = some o ∨ B.F b = none
  frame : ∀ b o, B.F b = some o → B.io ≠ some b → H b = some o
  len : σ.length = s.e.length
  slots : ∀ (i : Nat) (sl : Sl), s.e[i]? = some sl → ∃ o, σ[i]? = some o ∧ SlR K B G H sl o
  sep : ∀ (i j : Nat) (p : Addr) (ds es : List D), i ≠ j → s.e[i]? = some (.own ds) → s.e[j]? = some (.own es) → σ[i]? = some (some (.ref p)) → σ[j]? = some (some (.ref p)) → False
  iok : ∀ p, B.io = some p → ∃ vs, H p = some (.lst vs) ∧ RepL K G s.m vs ∧ G p = none
  iof : ∀ p, B.io = some p → ∃ o, B.F p = some o
section
variable {K : PySem.W.Frag} {B : Bs} {G G' H H' : Hp} {σ : L2.St} {s : S} {p : Addr} {o : HO}
theorem Rp.fF (R : Rp K B G H σ s) (h : H p = none) : B.F p = none := by
  cases q : B.F p with
  | none => rfl
  | some u =>
    by_cases e : B.io = some p
    · obtain ⟨vs, h1, _⟩ := R.iok p e
      rw [h] at h1; cases h1
    · rw [R.frame p u q e] at h; cases h
theorem Rp.gnone (R : Rp K B G H σ s) (h : H p = none) : G p = none := R.sub.free h
theorem Rp.ioNe (R : Rp K B G H σ s) (h : B.F p = none) : B.io ≠ some p := fun e => by
  obtain ⟨o, q⟩ := R.iof p e
  rw [h] at q; cases q
theorem Rp.slot (R : Rp K B G H σ s) {i : Nat} {d : D} (h : s.e[i]? = some (.v d)) : ∃ v, σ[i]? = some (some v) ∧ Rep K G d v := by
  obtain ⟨o, h1, v, rfl, r⟩ := R.slots i _ h
  exact ⟨v, h1, r⟩
theorem Rp.ownAt (R : Rp K B G H σ s) {i : Nat} {ds : List D} (h : s.e[i]? = some (.own ds)) : ∃ p vs, σ[i]? = some (some (.ref p)) ∧ H p = some (.lst vs) ∧ RepL K G ds vs ∧ G p = none ∧ B.F p = none := by
  obtain ⟨o, h1, p, vs, rfl, r⟩ := R.slots i _ h
  exact ⟨p, vs, h1, r⟩
theorem Rp.ioAt (R : Rp K B G H σ s) {i : Nat} (h : s.e[i]? = some .io) : ∃ p, σ[i]? = some (some (.ref p)) ∧ B.io = some p := by
  obtain ⟨o, h1, p, rfl, r⟩ := R.slots i _ h
  exact ⟨p, h1, r⟩
/-- the state goes on: frozen things come, other things are kept but at x (a slot's own list, or the list of the caller) -/
theorem Rp.go (R : Rp K B G H σ s) (hG : Same G G') (sub' : Same G' H') (nw : ∀ b o, G' b = some o → G b = some o ∨ H b = none) (kp : ∀ b o, H b = some o → H' b = some o) : Rp K B G' H' σ s := by
  have gn : ∀ p, G p = none → (∃ o, H p = some o) → G' p = none := fun p h1 ⟨o, h2⟩ => by
    cases q : G' p with
    | none => rfl
    | some u =>
      rcases nw p u q with z | z
      · rw [h1] at z; cases z
      · rw [h2] at z; cases z
  refine ⟨sub', R.base.trans hG, R.g0, fun b o h => ?_, fun b o h1 h2 => kp b o (R.frame b o h1 h2), R.len, fun i sl h => ?_, R.sep, fun p h => ?_, R.iof⟩
  · rcases nw b o h with z | z
    · exact R.new b o z
    · exact .inr (R.fF z)
  · obtain ⟨ov, h1, h2⟩ := R.slots i sl h
    refine ⟨ov, h1, ?_⟩
    cases sl with
    | no => trivial
    | v d => obtain ⟨v, e, r⟩ := h2; exact ⟨v, e, r.mono hG⟩
    | own ds =>
      obtain ⟨p, vs, e, a1, a2, a3, a4⟩ := h2
      exact ⟨p, vs, e, kp p _ a1, a2.mono hG, gn p a3 ⟨_, a1⟩, a4⟩
    | io => exact h2
  · obtain ⟨vs, a1, a2, a3⟩ := R.iok p h
    exact ⟨vs, kp p _ a1, a2.mono hG, gn p a3 ⟨_, a1⟩⟩
theorem Rp.alloc (R : Rp K B G H σ s) (h : H p = none) : Rp K B G (upd H p o) σ s :=
  R.go (Same.refl _) (fun b u q => by rw [upd_ne (ne_of_none (R.sub b u q) h)]; exact R.sub b u q) (fun _ _ q => .inl q) fun b u q => by rw [upd_ne (ne_of_none q h)]; exact q
theorem same_upd (h : G p = none) : Same G (upd G p o) := fun b u q => by rw [upd_ne (ne_of_none q h)]; exact q
/-- a new thing, frozen at once -/
theorem Rp.allocG (R : Rp K B G H σ s) (h : H p = none) : Rp K B (upd G p o) (upd H p o) σ s := by
  have hg := R.gnone h
  refine R.go (same_upd hg) (fun b u q => ?_) (fun b u q => ?_) fun b u q => by rw [upd_ne (ne_of_none q h)]; exact q
  · by_cases e : b = p
    · subst e; rw [upd_same] at q ⊢; exact q
    · rw [upd_ne e] at q ⊢; exact R.sub b u q
  · by_cases e : b = p
    · subst e; exact .inr h
    · rw [upd_ne e] at q; exact .inl q
/-- a thing that no slot holds is frozen -/
theorem Rp.freeze (R : Rp K B G H σ s) (h : H p = some o) (hf : B.F p = none) (hs : ∀ (i : Nat) (ds : List D), s.e[i]? = some (.own ds) → σ[i]? ≠ some (some (.ref p))) (hg : G p = none) : Rp K B (upd G p o) H σ s := by
  have hG := same_upd (o := o) hg
  refine ⟨fun b u q => ?_, R.base.trans hG, R.g0, fun b u q => ?_, R.frame, R.len, fun i sl q => ?_, R.sep, fun b q => ?_, R.iof⟩
  · by_cases e : b = p
    · subst e; rw [upd_same] at q; rw [h]; exact q
    · rw [upd_ne e] at q; exact R.sub b u q
  · by_cases e : b = p
    · subst e; exact .inr hf
    · rw [upd_ne e] at q; exact R.new b u q
  · obtain ⟨ov, h1, h2⟩ := R.slots i sl q
    refine ⟨ov, h1, ?_⟩
    cases sl with
    | no => trivial
    | v d => obtain ⟨v, e, r⟩ := h2; exact ⟨v, e, r.mono hG⟩
    | own ds =>
      obtain ⟨b, vs, e, a1, a2, a3, a4⟩ := h2
      refine ⟨b, vs, e, a1, a2.mono hG, ?_, a4⟩
      rw [upd_ne (fun z => ?_)]; exact a3
      subst z; rw [e] at h1; exact hs i ds q h1
    | io => exact h2
  · obtain ⟨vs, a1, a2, a3⟩ := R.iok b q
    refine ⟨vs, a1, a2.mono hG, ?_⟩
    rw [upd_ne (fun z => ?_)]; exact a3
    subst z; exact R.ioNe hf q
def S.setv (s : S) (i : Nat) (d : D) : S := ⟨s.e.set i (.v d), s.m⟩
def S.setO (s : S) (i : Nat) (ds : List D) : S := ⟨s.e.set i (.own ds), s.m⟩
/-- a name gets a value -/
theorem Rp.setv (R : Rp K B G H σ s) {i : Nat} {d : D} {v : V} (r : Rep K G d v) : Rp K B G H (σ.set i (some v)) (s.setv i d) := by
  refine ⟨R.sub, R.base, R.g0, R.new, R.frame, by simp [S.setv, R.len], fun j sl h => ?_, fun j k p ds es hn h1 h2 h3 h4 => ?_, R.iok, R.iof⟩
  · simp only [S.setv] at h
    by_cases e : i = j
    · subst e
      have hl : i < s.e.length := by
        have := (List.getElem?_eq_some_iff.mp h).1
        simpa using this
      rw [List.getElem?_set_self hl] at h
      cases h
      exact ⟨some v, by rw [List.getElem?_set_self (by rw [R.len]; exact hl)], v, rfl, r⟩
    · rw [List.getElem?_set_ne e] at h ⊢
      exact R.slots j sl h
  · simp only [S.setv] at h1 h2
    have ne : ∀ {k : Nat} {ds : List D}, (s.e.set i (.v d))[k]? = some (.own ds) → i ≠ k := fun {k ds} q z => by
      subst z
      have hl : i < s.e.length := by
        have := (List.getElem?_eq_some_iff.mp q).1
        simpa using this
      rw [List.getElem?_set_self hl] at q; cases q
    have n1 := ne h1
    have n2 := ne h2
    rw [List.getElem?_set_ne n1] at h1 h3
    rw [List.getElem?_set_ne n2] at h2 h4
    exact R.sep j k p ds es hn h1 h2 h3 h4
/-- a name gets a new list of its own -/
theorem Rp.setO (R : Rp K B G H σ s) {i : Nat} {ds : List D} {p : Addr} {vs : List V} (h : H p = some (.lst vs)) (r : RepL K G ds vs) (hg : G p = none) (hf : B.F p = none) (hs : ∀ (i : Nat) (ds : List D), s.e[i]? = some (.own ds) → σ[i]? ≠ some (some (.ref p))) :
    Rp K B G H (σ.set i (some (.ref p))) (s.setO i ds) := by
  refine ⟨R.sub, R.base, R.g0, R.new, R.frame, by simp [S.setO, R.len], fun j sl q => ?_, fun j k b ds es hn h1 h2 h3 h4 => ?_, R.iok, R.iof⟩
  · simp only [S.setO] at q
    by_cases e : i = j
    · subst e
      have hl : i < s.e.length := by
        have := (List.getElem?_eq_some_iff.mp q).1
        simpa using this
      rw [List.getElem?_set_self hl] at q
      cases q
      exact ⟨_, by rw [List.getElem?_set_self (by rw [R.len]; exact hl)], p, vs, rfl, h, r, hg, hf⟩
    · rw [List.getElem?_set_ne e] at q ⊢
      exact R.slots j sl q
  · simp only [S.setO] at h1 h2
    by_cases e1 : i = j
    · by_cases e2 : i = k
      · exact hn (e1.symm.trans e2)
      · subst e1
        have hl : i < s.e.length := by
          have := (List.getElem?_eq_some_iff.mp h1).1
          simpa using this
        rw [List.getElem?_set_self (by rw [R.len]; exact hl)] at h3
        cases h3
        rw [List.getElem?_set_ne e2] at h2 h4
        exact hs k _ h2 h4
    · rw [List.getElem?_set_ne e1] at h1 h3
      by_cases e2 : i = k
      · subst e2
        have hl : i < s.e.length := by
          have := (List.getElem?_eq_some_iff.mp h2).1
          simpa using this
        rw [List.getElem?_set_self (by rw [R.len]; exact hl)] at h4
        cases h4
        exact hs j _ h1 h3
      · rw [List.getElem?_set_ne e2] at h2 h4
        exact R.sep j k b _ _ hn h1 h2 h3 h4
/-- a slot's own list is frozen: the name holds a value from now on -/
theorem Rp.move (R : Rp K B G H σ s) {i : Nat} {ds : List D} (h : s.e[i]? = some (.own ds)) : ∃ p vs, σ[i]? = some (some (.ref p)) ∧ H p = some (.lst vs) ∧ Same G (upd G p (.lst vs)) ∧ Rp K B (upd G p (.lst vs)) H σ (s.setv i (.lst ds)) ∧ Rep K (upd G p (.lst vs)) (.lst ds) (.ref p) := by
  obtain ⟨p, vs, e, a1, a2, a3, a4⟩ := R.ownAt h
  have hl : i < s.e.length := (List.getElem?_eq_some_iff.mp h).1
  have hG := same_upd (o := HO.lst vs) a3
  have hr : Rep K (upd G p (.lst vs)) (.lst ds) (.ref p) := .lst upd_same (a2.mono hG)
  refine ⟨p, vs, e, a1, hG, ?_, hr⟩
  -- the state without the slot's claim
  have R1 : Rp K B G H σ ⟨s.e.set i .no, s.m⟩ := by
    refine ⟨R.sub, R.base, R.g0, R.new, R.frame, by simp [R.len], fun j sl q => ?_, fun j k b es fs hn h1 h2 h3 h4 => ?_, R.iok, R.iof⟩
    · simp only at q
      by_cases z : i = j
      · subst z
        rw [List.getElem?_set_self hl] at q
        cases q
        exact ⟨_, e, trivial⟩
      · rw [List.getElem?_set_ne z] at q
        exact R.slots j sl q
    · simp only at h1 h2
      have ne : ∀ {k : Nat} {es : List D}, (s.e.set i .no)[k]? = some (.own es) → i ≠ k := fun {k es} q z => by
        subst z
        rw [List.getElem?_set_self hl] at q; cases q
      have n1 := ne h1
      have n2 := ne h2
      rw [List.getElem?_set_ne n1] at h1
      rw [List.getElem?_set_ne n2] at h2
      exact R.sep j k b es fs hn h1 h2 h3 h4
  have R2 : Rp K B (upd G p (.lst vs)) H σ ⟨s.e.set i .no, s.m⟩ := R1.freeze a1 a4 (fun j es q z => by
    simp only at q
    by_cases w : i = j
    · subst w; rw [List.getElem?_set_self hl] at q; cases q
    · rw [List.getElem?_set_ne w] at q
      exact R.sep i j p ds es w h q e z) a3
  have R3 := R2.setv (i := i) hr
  have es : σ.set i (some (.ref p)) = σ := by
    apply List.ext_getElem?
    intro j
    by_cases w : i = j
    · subst w; rw [List.getElem?_set_self (by rw [R.len]; exact hl), e]
    · rw [List.getElem?_set_ne w]
  rw [es] at R3
  have ee : (S.mk (s.e.set i .no) s.m).setv i (.lst ds) = s.setv i (.lst ds) := by simp [S.setv]
  rw [ee] at R3
  exact R3
/-- a slot's own list is changed (what is frozen may have come beside) -/
theorem Rp.mutO (R : Rp K B G H σ s) {i : Nat} {ds es : List D} {p : Addr} {vs : List V} (h : s.e[i]? = some (.own ds)) (hp : σ[i]? = some (some (.ref p))) (hG : Same G G') (sub' : Same G' H') (nw : ∀ b o, G' b = some o → G b = some o ∨ H b = none)
    (kp : ∀ b o, H b = some o → b ≠ p → H' b = some o) (hp' : H' p = some (.lst vs)) (r : RepL K G' es vs) : Rp K B G' H' σ (s.setO i es) := by
  obtain ⟨p0, vs0, e0, a1, a2, a3, a4⟩ := R.ownAt h
  have hpp : p0 = p := by rw [e0] at hp; cases hp; rfl
  subst hpp
  have hl : i < s.e.length := (List.getElem?_eq_some_iff.mp h).1
  have gn : ∀ q, G q = none → (∃ o, H q = some o) → G' q = none := fun q h1 ⟨o, h2⟩ => by
    cases w : G' q with
    | none => rfl
    | some u =>
      rcases nw q u w with z | z
      · rw [h1] at z; cases z
      · rw [h2] at z; cases z
  refine ⟨sub', R.base.trans hG, R.g0, fun b o q => ?_, fun b o h1 h2 => ?_, by simp [S.setO, R.len], fun j sl q => ?_, fun j k b ds' es' hn h1 h2 h3 h4 => ?_, fun q w => ?_, R.iof⟩
  · rcases nw b o q with z | z
    · exact R.new b o z
    · exact .inr (R.fF z)
  · exact kp b o (R.frame b o h1 h2) fun z => by subst z; rw [a4] at h1; cases h1
  · simp only [S.setO] at q
    by_cases z : i = j
    · subst z
      rw [List.getElem?_set_self hl] at q
      cases q
      exact ⟨_, e0, p0, vs, rfl, hp', r, gn p0 a3 ⟨_, a1⟩, a4⟩
    · rw [List.getElem?_set_ne z] at q
      obtain ⟨ov, h1, h2⟩ := R.slots j sl q
      refine ⟨ov, h1, ?_⟩
      cases sl with
      | no => trivial
      | v d => obtain ⟨v, e, r⟩ := h2; exact ⟨v, e, r.mono hG⟩
      | own fs =>
        obtain ⟨b, ws, e, c1, c2, c3, c4⟩ := h2
        subst e
        exact ⟨b, ws, rfl, kp b _ c1 (fun w => by subst w; exact R.sep i j b _ _ z h q e0 h1), c2.mono hG, gn b c3 ⟨_, c1⟩, c4⟩
      | io => exact h2
  · simp only [S.setO] at h1 h2
    have tr : ∀ {k : Nat} {fs : List D}, (s.e.set i (.own es))[k]? = some (.own fs) → ∃ gs, s.e[k]? = some (.own gs) := fun {k fs} q => by
      by_cases z : i = k
      · subst z; exact ⟨_, h⟩
      · rw [List.getElem?_set_ne z] at q; exact ⟨_, q⟩
    obtain ⟨g1, h1⟩ := tr h1
    obtain ⟨g2, h2⟩ := tr h2
    exact R.sep j k b _ _ hn h1 h2 h3 h4
  · obtain ⟨ws, c1, c2, c3⟩ := R.iok q w
    exact ⟨ws, kp q _ c1 (fun z => by subst z; exact R.ioNe a4 w), c2.mono hG, gn q c3 ⟨_, c1⟩⟩
/-- the caller's list is changed -/
theorem Rp.mutI (R : Rp K B G H σ s) {es : List D} {p : Addr} {vs : List V} (hi : B.io = some p) (hG : Same G G') (sub' : Same G' H') (nw : ∀ b o, G' b = some o → G b = some o ∨ H b = none)
    (kp : ∀ b o, H b = some o → b ≠ p → H' b = some o) (hp' : H' p = some (.lst vs)) (r : RepL K G' es vs) : Rp K B G' H' σ ⟨s.e, es⟩ := by
  have gn : ∀ q, G q = none → (∃ o, H q = some o) → G' q = none := fun q h1 ⟨o, h2⟩ => by
    cases w : G' q with
    | none => rfl
    | some u =>
      rcases nw q u w with z | z
      · rw [h1] at z; cases z
      · rw [h2] at z; cases z
  refine ⟨sub', R.base.trans hG, R.g0, fun b o q => ?_, fun b o h1 h2 => ?_, R.len, fun j sl q => ?_, R.sep, fun q w => ?_, R.iof⟩
  · rcases nw b o q with z | z
    · exact R.new b o z
    · exact .inr (R.fF z)
  · exact kp b o (R.frame b o h1 h2) fun z => by subst z; exact h2 hi
  · obtain ⟨ov, h1, h2⟩ := R.slots j sl q
    refine ⟨ov, h1, ?_⟩
    cases sl with
    | no => trivial
    | v d => obtain ⟨v, e, r⟩ := h2; exact ⟨v, e, r.mono hG⟩
    | own fs =>
      obtain ⟨b, ws, e, c1, c2, c3, c4⟩ := h2
      exact ⟨b, ws, e, kp b _ c1 (fun w => by subst w; exact R.ioNe c4 hi), c2.mono hG, gn b c3 ⟨_, c1⟩, c4⟩
    | io => exact h2
  · obtain ⟨ws, c1, c2, c3⟩ := R.iok p hi
    have : q = p := by rw [hi] at w; cases w; rfl
    subst this
    exact ⟨vs, hp', r, gn q c3 ⟨_, c1⟩⟩
end
end DL
namespace DL
open PySem L2
/-! ### readings -/
def Fresh (B : Bs) (G H : Hp) (σ : L2.St) (s : S) (p : Addr) (vs : List V) : Prop :=
  H p = some (.lst vs) ∧ G p = none ∧ B.F p = none ∧ ∀ (i : Nat) (es : List D), s.e[i]? = some (.own es) → σ[i]? ≠ some (some (.ref p))
section
variable (K : PySem.W.Frag) (B : Bs)
def Tv (f : S → Option (D × S)) : TE := fun σ H Q => ∃ G s d s', Rp K B G H σ s ∧ f s = some (d, s') ∧ ∀ v G' H', Same G G' → Rp K B G' H' σ s' → Rep K G' d v → Q v H'
def To (f : S → Option (List D × S)) : TE := fun σ H Q => ∃ G s ds s', Rp K B G H σ s ∧ f s = some (ds, s') ∧ ∀ p vs G' H', Same G G' → Rp K B G' H' σ s' → Fresh B G' H' σ s' p vs → RepL K G' ds vs → Q (.ref p) H'
def Tb (f : S → Option (List D × S)) : TE := fun σ H Q => ∃ G s ds s', Rp K B G H σ s ∧ f s = some (ds, s') ∧ ∀ p vs G' H', Same G G' → Rp K B G' H' σ s' → SqL K H' p vs → RepL K G' ds vs → Q (.ref p) H'
def Tt (f : S → Option (Bool × S)) : TT := fun σ H Q => ∃ G s b s', Rp K B G H σ s ∧ f s = some (b, s') ∧ ∀ G' H', Same G G' → Rp K B G' H' σ s' → Q b H'
def Ta (f : S → Option (List D × S)) : TA := fun σ H Q => ∃ G s ds s', Rp K B G H σ s ∧ f s = some (ds, s') ∧ ∀ vs G' H', Same G G' → Rp K B G' H' σ s' → RepL K G' ds vs → Q vs H'
def Tg (t : D → S → Option S) : TG := fun v σ H Q => ∃ G s d s', Rp K B G H σ s ∧ Rep K G d v ∧ t d s = some s' ∧ ∀ σ' G' H', Same G G' → Rp K B G' H' σ' s' → Q σ' H'
def Tgs (t : List D → S → Option S) : TGs := fun vs σ H Q => ∃ G s ds s', Rp K B G H σ s ∧ RepL K G ds vs ∧ t ds s = some s' ∧ ∀ σ' G' H', Same G G' → Rp K B G' H' σ' s' → Q σ' H'
/-- what a for walks gives the values ds in order -/
def Walk (G : Hp) (J : It) (ds : List D) : Prop := ∀ (B : Bs) (G' H' : Hp) (σ' : L2.St) (s' : S), Same G G' → Rp K B G' H' σ' s' →
  J.stop ds.length H' ∧ ∀ (i : Nat) (d : D), ds[i]? = some d → J.go i H' ∧ ∀ x H'', J.yld i H' x H'' → ∃ G'', Same G' G'' ∧ Rp K B G'' H'' σ' s' ∧ Rep K G'' d x ∧ ∀ p, H' p = none → H'' p ≠ none → G'' p ≠ none
def Ti (f : S → Option (List D × S)) : TI := fun σ H R => ∃ G s ds s', Rp K B G H σ s ∧ f s = some (ds, s') ∧ ∀ J G' H', Same G G' → Rp K B G' H' σ s' → Walk K G' J ds → R J H'
end
inductive Fl where
  | nx (s : S) | rt (d : D) (s : S) | ro (ds : List D) (s : S) | bk (s : S) | ct (s : S)
def FlK (K : PySem.W.Frag) (B : Bs) (G : Hp) (Dn : Ends) : Fl → Prop
  | .nx s' => ∀ σ' G' H', Same G G' → Rp K B G' H' σ' s' → Dn.nx σ' H'
  | .bk s' => ∀ σ' G' H', Same G G' → Rp K B G' H' σ' s' → Dn.bk σ' H'
  | .ct s' => ∀ σ' G' H', Same G G' → Rp K B G' H' σ' s' → Dn.ct σ' H'
  | .rt d s' => ∀ v σ' G' H', Same G G' → Rp K B G' H' σ' s' → Rep K G' d v → Dn.rt v H'
  | .ro ds s' => ∀ p vs σ' G' H', Same G G' → Rp K B G' H' σ' s' → Fresh B G' H' σ' ⟨[], s'.m⟩ p vs → RepL K G' ds vs → Dn.rt (.ref p) H'
theorem FlK.mono {K : PySem.W.Frag} {B : Bs} {G G1 : Hp} {Dn : Ends} {o : Fl} (e : Same G G1) (h : FlK K B G Dn o) : FlK K B G1 Dn o := by
  cases o with
  | nx s => exact fun σ' G' H' a b => h σ' G' H' (e.trans a) b
  | bk s => exact fun σ' G' H' a b => h σ' G' H' (e.trans a) b
  | ct s => exact fun σ' G' H' a b => h σ' G' H' (e.trans a) b
  | rt d s => exact fun v σ' G' H' a b => h v σ' G' H' (e.trans a) b
  | ro d s => exact fun p vs σ' G' H' a b => h p vs σ' G' H' (e.trans a) b
def Ts (K : PySem.W.Frag) (B : Bs) (g : S → Option Fl) : TS := fun Dn σ H => ∃ G s o, Rp K B G H σ s ∧ g s = some o ∧ FlK K B G Dn o
abbrev EV (X : Cx) (e : Expr) (f : S → Option (D × S)) : Prop := ∀ B, PE X e (Tv X.K B f)
abbrev EO (X : Cx) (e : Expr) (f : S → Option (List D × S)) : Prop := ∀ B, PE X e (To X.K B f)
abbrev EB (X : Cx) (e : Expr) (f : S → Option (List D × S)) : Prop := ∀ B, PE X e (Tb X.K B f)
abbrev TV (X : Cx) (e : Expr) (f : S → Option (Bool × S)) : Prop := ∀ B, PT X e (Tt X.K B f)
abbrev TW (X : Cx) (e : Expr) (f : S → Option (Bool × S)) : Prop := ∀ B, PW X e (Tt X.K B f)
abbrev AV (X : Cx) (es : List Expr) (f : S → Option (List D × S)) : Prop := ∀ B, PA X es (Ta X.K B f)
abbrev IV (X : Cx) (tg e : Expr) (f : S → Option (List D × S)) : Prop := ∀ B, PI X tg e (Ti X.K B f)
abbrev GV (X : Cx) (e : Expr) (t : D → S → Option S) : Prop := ∀ B, PG X e (Tg X.K B t)
abbrev GVs (X : Cx) (es : List Expr) (t : List D → S → Option S) : Prop := ∀ B, PGs X es (Tgs X.K B t)
abbrev SV (X : Cx) (st : Stmt) (g : S → Option Fl) : Prop := ∀ B, PS X st (Ts X.K B g)
abbrev SVs (X : Cx) (st : List Stmt) (g : S → Option Fl) : Prop := ∀ B, PSs X st (Ts X.K B g)
section
variable {X : Cx}
theorem PE.weak {e : Expr} {t t' : TE} (h : PE X e t) (w : ∀ σ H Q, t' σ H Q → t σ H Q) : PE X e t' := ⟨fun pins s σ H Q I q => h.run pins s σ H Q I (w _ _ _ q)⟩
theorem PT.weak {e : Expr} {t t' : TT} (h : PT X e t) (w : ∀ σ H Q, t' σ H Q → t σ H Q) : PT X e t' := ⟨fun pins s σ H Q I q => h.run pins s σ H Q I (w _ _ _ q)⟩
theorem PW.weak {e : Expr} {t t' : TT} (h : PW X e t) (w : ∀ σ H Q, t' σ H Q → t σ H Q) : PW X e t' := ⟨fun wh pins s σ H Q I q => h.run wh pins s σ H Q I (w _ _ _ q)⟩
theorem PA.weak {e : List Expr} {t t' : TA} (h : PA X e t) (w : ∀ σ H Q, t' σ H Q → t σ H Q) : PA X e t' := ⟨fun pos pins s σ H Q I q => h.run pos pins s σ H Q I (w _ _ _ q)⟩
theorem PS.weak {e : Stmt} {t t' : TS} (h : PS X e t) (w : ∀ Dn σ H, t' Dn σ H → t Dn σ H) : PS X e t' := ⟨fun pins s σ H Dn I q => h.run pins s σ H Dn I (w _ _ _ q)⟩
theorem PSs.weak {e : List Stmt} {t t' : TS} (h : PSs X e t) (w : ∀ Dn σ H, t' Dn σ H → t Dn σ H) : PSs X e t' := ⟨fun pins s σ H Dn I q => h.run pins s σ H Dn I (w _ _ _ q)⟩
theorem PI.weak {tg e : Expr} {t t' : TI} (h : PI X tg e t) (w : ∀ σ H R, t' σ H R → t σ H R) : PI X tg e t' := ⟨fun pins s σ H R I q => h.run pins s σ H R I (w _ _ _ q)⟩
theorem PG.weak {e : Expr} {t t' : TG} (h : PG X e t) (w : ∀ v σ H Q, t' v σ H Q → t v σ H Q) : PG X e t' := ⟨fun pins s σ H v u Q I r q => h.run pins s σ H v u Q I r (w _ _ _ _ q)⟩
theorem PGs.weak {e : List Expr} {t t' : TGs} (h : PGs X e t) (w : ∀ v σ H Q, t' v σ H Q → t v σ H Q) : PGs X e t' := ⟨fun pins s σ H v u Q I r q => h.run pins s σ H v u Q I r (w _ _ _ _ q)⟩
end
/-! ### names, constants -/
/-- a name's value; a list of its own is given away -/
def getv (i : Nat) (s : S) : Option (D × S) := match s.e[i]? with
  | some (.v d) => some (d, s)
  | some (.own ds) => some (.lst ds, s.setv i (.lst ds))
  | _ => none
/-- the list that a name holds, looked at -/
def geto (i : Nat) (s : S) : Option (List D) := match s.e[i]? with
  | some (.own ds) => some ds
  | some .io => some s.m
  | some (.v (.lst ds)) => some ds
  | some (.v (.fl ds)) => some ds
  | _ => none
def cst (d : D) (s : S) : Option (D × S) := some (d, s)
def bor (i : Nat) (s : S) : Option (List D × S) := (geto i s).map fun ds => (ds, s)
def asL : D → Option (List D)
  | .lst ds => some ds
  | .fl ds => some ds
  | _ => none
def ofO (f : S → Option (List D × S)) (s : S) : Option (D × S) := (f s).map fun r => (.lst r.1, r.2)
def ofV (f : S → Option (D × S)) (s : S) : Option (List D × S) := (f s).bind fun r => (asL r.1).map fun ds => (ds, r.2)
section
variable {X : Cx}
theorem getv_ok {K : PySem.W.Frag} {B : Bs} {G H : Hp} {σ : L2.St} {s s' : S} {i : Nat} {d : D} (R : Rp K B G H σ s) (h : getv i s = some (d, s')) : ∃ v G', σ[i]? = some (some v) ∧ Same G G' ∧ Rp K B G' H σ s' ∧ Rep K G' d v := by
  unfold getv at h
  cases q : s.e[i]? with
  | none => rw [q] at h; cases h
  | some sl =>
    rw [q] at h
    cases sl with
    | no => cases h
    | io => cases h
    | v d0 =>
      cases h
      obtain ⟨v, e, r⟩ := R.slot q
      exact ⟨v, G, e, Same.refl G, R, r⟩
    | own ds =>
      cases h
      obtain ⟨p, vs, e, a1, a2, a3, a4⟩ := R.move q
      exact ⟨.ref p, _, e, a2, a3, a4⟩
theorem ev_var (i : Nat) {x : Str} {pos : Pos} (hN : X.N[i]? = some x := by rfl) (hv : Vis X.env.scope x := by first | exact Or.inl rfl | exact Or.inr (Or.inl rfl) | exact Or.inr (Or.inr rfl)) (hd : (x == ("__debug__" : Str)) = false := by decide)
    (hcd : (x == ("__classdict__" : Str)) = false := by decide) : EV X (.Name x pos) (getv i) := fun B => by
  refine PE.weak (pe_var (i := i) hN hv hd hcd) fun σ H Q ⟨G, s, d, s', R, h, k⟩ => ?_
  obtain ⟨v, G', e, a, b, c⟩ := getv_ok R h
  exact ⟨v, e, k v G' H a b c⟩
theorem geto_ok {K : PySem.W.Frag} {B : Bs} {G H : Hp} {σ : L2.St} {s : S} {i : Nat} {ds : List D} (R : Rp K B G H σ s) (h : geto i s = some ds) : ∃ p vs, σ[i]? = some (some (.ref p)) ∧ SqL K H p vs ∧ RepL K G ds vs := by
  unfold geto at h
  cases q : s.e[i]? with
  | none => rw [q] at h; cases h
  | some sl =>
    rw [q] at h
    cases sl with
    | no => cases h
    | io =>
      cases h
      obtain ⟨p, e, hi⟩ := R.ioAt q
      obtain ⟨vs, a1, a2, a3⟩ := R.iok p hi
      exact ⟨p, vs, e, SqL.of a1, a2⟩
    | v d0 =>
      obtain ⟨v, e, r⟩ := R.slot q
      cases d0 <;> cases h
      · cases r with
        | lst h1 h2 => exact ⟨_, _, e, SqL.of (R.sub _ _ h1), h2⟩
      · cases r with
        | fl h1 h2 => exact ⟨_, _, e, R.sub.seq h1, h2⟩
    | own es =>
      cases h
      obtain ⟨p, vs, e, a1, a2, a3, a4⟩ := R.ownAt q
      exact ⟨p, vs, e, SqL.of a1, a2⟩
theorem eb_var (i : Nat) {x : Str} {pos : Pos} (hN : X.N[i]? = some x := by rfl) (hv : Vis X.env.scope x := by first | exact Or.inl rfl | exact Or.inr (Or.inl rfl) | exact Or.inr (Or.inr rfl)) (hd : (x == ("__debug__" : Str)) = false := by decide)
    (hcd : (x == ("__classdict__" : Str)) = false := by decide) : EB X (.Name x pos) (bor i) := fun B => by
  refine PE.weak (pe_var (i := i) hN hv hd hcd) fun σ H Q ⟨G, s, ds, s', R, h, k⟩ => ?_
  unfold bor at h
  cases q : geto i s with
  | none => rw [q] at h; cases h
  | some es =>
    rw [q] at h; cases h
    obtain ⟨p, vs, e, a, b⟩ := geto_ok R q
    exact ⟨_, e, k p vs G H (Same.refl G) R a b⟩
theorem ev_of {e : Expr} {v : V} {d : D} (h : PE X e (tC v)) (r : ∀ K G, Rep K G d v) : EV X e (cst d) := fun B =>
  PE.weak h fun σ H Q ⟨G, s, d', s', R, h, k⟩ => by cases h; exact k v G H (Same.refl G) R (r _ _)
theorem ev_int {i j pos} : EV X (.Constant (.int i) j pos) (cst (.int i)) := ev_of pe_int fun _ _ => .int i
theorem ev_bl {i j pos} : EV X (.Constant (.bool i) j pos) (cst (.bl i)) := ev_of pe_bl fun _ _ => .bl i
theorem ev_non {j pos} : EV X (.Constant .none j pos) (cst .non) := ev_of pe_non fun _ _ => .non
theorem ev_str {i j pos} : EV X (.Constant (.str i) j pos) (cst (.str i)) := ev_of pe_str fun _ _ => .str i
/-- a module's int -/
theorem ev_globI {x : Str} {i : Int} {u : Value} {pos : Pos} (hm : X.mg x = some u) (r : RelV (.int i) u) (hg : Gl X x := by rfl) (hd : (x == ("__debug__" : Str)) = false := by decide) : EV X (.Name x pos) (cst (.int i)) := ev_of (pe_glob hg hm r hd) fun _ _ => .int i
theorem ev_glob {x : Str} {v : V} {d : D} {u : Value} {pos : Pos} (hm : X.mg x = some u) (r : RelV v u) (rd : ∀ K G, Rep K G d v) (hg : Gl X x := by rfl) (hd : (x == ("__debug__" : Str)) = false := by decide) : EV X (.Name x pos) (cst d) := ev_of (pe_glob hg hm r hd) rd
theorem ev_type {x : Str} {n : String} {pos : Pos} (hm : X.mg x = none) (hv : bootBuiltins x = some (.type n)) (hg : Gl X x := by rfl) (hn : x ≠ "__name__" := by decide) (hd : (x == ("__debug__" : Str)) = false := by decide) : EV X (.Name x pos) (cst (.ty n)) :=
  ev_of (pe_bltn hg hm hv (show RelV (.ty n) (.type n) from rfl) hn hd) fun _ _ => .ty n
/-! ### from one reading to another -/
theorem ev_o {e : Expr} {f : S → Option (List D × S)} (h : EO X e f) : EV X e (ofO f) := fun B => by
  refine PE.weak (h B) fun σ H Q ⟨G, s, d, s', R, hf, k⟩ => ?_
  unfold ofO at hf
  cases q : f s with
  | none => rw [q] at hf; cases hf
  | some r =>
    rw [q] at hf; cases hf
    exact ⟨G, s, r.1, r.2, R, q, fun p vs G' H' a R' ⟨f1, f2, f3, f4⟩ r' =>
      k (.ref p) (upd G' p (.lst vs)) H' (a.trans (same_upd f2)) (R'.freeze f1 f3 f4 f2) (.lst upd_same (r'.mono (same_upd f2)))⟩
theorem eb_o {e : Expr} {f : S → Option (List D × S)} (h : EO X e f) : EB X e f := fun B => by
  refine PE.weak (h B) fun σ H Q ⟨G, s, ds, s', R, hf, k⟩ => ?_
  exact ⟨G, s, ds, s', R, hf, fun p vs G' H' a R' ⟨f1, f2, f3, f4⟩ r' => k p vs G' H' a R' (SqL.of f1) r'⟩
theorem eb_v {e : Expr} {f : S → Option (D × S)} (h : EV X e f) : EB X e (ofV f) := fun B => by
  refine PE.weak (h B) fun σ H Q ⟨G, s, ds, s', R, hf, k⟩ => ?_
  unfold ofV at hf
  cases q : f s with
  | none => rw [q] at hf; cases hf
  | some r =>
    rw [q] at hf
    obtain ⟨d, s1⟩ := r
    cases d <;> cases hf
    · exact ⟨G, s, _, _, R, q, fun v G' H' a R' r' => by cases r' with | lst h1 h2 => exact k _ _ G' H' a R' (SqL.of (R'.sub _ _ h1)) h2⟩
    · exact ⟨G, s, _, _, R, q, fun v G' H' a R' r' => by cases r' with | fl h1 h2 => exact k _ _ G' H' a R' (R'.sub.seq h1) h2⟩
/-! ### operators -/
def bin2 (f g : S → Option (D × S)) (φ : D → D → Option D) (s : S) : Option (D × S) := (f s).bind fun r1 => (g r1.2).bind fun r2 => (φ r1.1 r2.1).map fun d => (d, r2.2)
/-- an operator by values does φ -/
def OpD (K : PySem.W.Frag) (r : R2) (φ : D → D → Option D) : Prop := ∀ (B : Bs) (G H : Hp) (σ : L2.St) (s : S) (x y d : D) (v w : V) (Q : VK), Rp K B G H σ s → Rep K G x v → Rep K G y w → φ x y = some d →
  (∀ u G' H', Same G G' → Rp K B G' H' σ s → Rep K G' d u → Q u H') → r v w H Q
theorem bin2_ok {K : PySem.W.Frag} {B : Bs} {r : R2} {φ : D → D → Option D} {f g : S → Option (D × S)} {ta tb : TE} (hd : OpD K r φ) (ha : ∀ σ H Q, Tv K B f σ H Q → ta σ H Q) (hb : ∀ σ H Q, Tv K B g σ H Q → tb σ H Q) (σ : L2.St) (H : Hp) (Q : VK) (h : Tv K B (bin2 f g φ) σ H Q) : tOp r ta tb σ H Q := by
  obtain ⟨G, s, d, s', R, h, k⟩ := h
  unfold bin2 at h
  cases q1 : f s with
  | none => rw [q1] at h; cases h
  | some r1 =>
    rw [q1] at h
    obtain ⟨x, s1⟩ := r1
    simp only [Option.bind_some] at h
    cases q2 : g s1 with
    | none => rw [q2] at h; cases h
    | some r2 =>
      rw [q2] at h
      obtain ⟨y, s2⟩ := r2
      simp only [Option.bind_some] at h
      cases q3 : φ x y with
      | none => rw [q3] at h; cases h
      | some z =>
        rw [q3] at h; cases h
        exact ha σ H _ ⟨G, s, x, s1, R, q1, fun v G1 H1 a1 R1 r1 => hb σ H1 _ ⟨G1, s1, y, s', R1, q2, fun w G2 H2 a2 R2 r2 =>
          hd B G2 H2 σ s' x y d v w Q R2 (r1.mono a2) r2 q3 fun u G3 H3 a3 R3 r3 => k u G3 H3 ((a1.trans a2).trans a3) R3 r3⟩⟩
variable {a b c : Expr} {f g k : S → Option (D × S)} {pos : Pos} {r r' : R2} {φ ψ : D → D → Option D}
theorem ev_bin {op : Operator} (ho : OpR X (binaryOp op) r) (hd : OpD X.K r φ) (ha : EV X a f) (hb : EV X b g) : EV X (.BinOp a op b pos) (bin2 f g φ) := fun B =>
  PE.weak (pe_op ho (ha B) (hb B)) (bin2_ok hd (fun _ _ _ h => h) fun _ _ _ h => h)
theorem ev_cmp {op : CmpOp} (ho : OpR X (compareOp op) r) (hd : OpD X.K r φ) (ha : EV X a f) (hb : EV X b g) (hm : behindInMarks op b = false := by first | rfl | exact nobehind _ (by decide) (by decide)) : EV X (.Compare a [op] [b] pos) (bin2 f g φ) := fun B =>
  PE.weak (pe_cmpR ho (ha B) (hb B) hm) (bin2_ok hd (fun _ _ _ h => h) fun _ _ _ h => h)
/-- a value that is a bool, as a test -/
def tst (f : S → Option (D × S)) (s : S) : Option (Bool × S) := (f s).bind fun r => match r.1 with | .bl b => some (b, r.2) | _ => none
theorem tst_ok {K : PySem.W.Frag} {B : Bs} {t : TE} (h : ∀ σ H Q, Tv K B f σ H Q → t σ H Q) (σ : L2.St) (H : Hp) (Q : Bool → Hp → Prop) (ht : Tt K B (tst f) σ H Q) : t σ H fun x H' => ∃ k, x = .bl k ∧ Q k H' := by
  obtain ⟨G, s, b, s', R, hf, k⟩ := ht
  unfold tst at hf
  cases q : f s with
  | none => rw [q] at hf; cases hf
  | some r =>
    rw [q] at hf
    obtain ⟨d, s1⟩ := r
    cases d <;> cases hf
    exact h σ H _ ⟨G, s, _, _, R, q, fun v G' H' a R' r' => by cases r'; exact ⟨b, rfl, k G' H' a R'⟩⟩
theorem tv_val {e : Expr} (h : EV X e f) (he : ∀ whole, isTrue e X.env whole = (do let v ← whole; standAt e.pos; holding [v] (truthy v)) := by intro _; rfl) : TV X e (tst f) := fun B =>
  PT.weak (pt_val (h B) he) (tst_ok fun _ _ _ h => h)
theorem tv_cmp {op : CmpOp} (ho : OpR X (compareOp op) r) (hd : OpD X.K r φ) (ha : EV X a f) (hb : EV X b g) (hm : behindInMarks op b = false := by first | rfl | exact nobehind _ (by decide) (by decide)) : TV X (.Compare a [op] [b] pos) (tst (bin2 f g φ)) := fun B =>
  PT.weak (pt_cmpR ho (ha B) (hb B) hm) (tst_ok (bin2_ok hd (fun _ _ _ h => h) fun _ _ _ h => h))
/-- a < b < c -/
def chn (f g k : S → Option (D × S)) (φ ψ : D → D → Option D) (s : S) : Option (D × S) := (f s).bind fun r1 => (g r1.2).bind fun r2 => (φ r1.1 r2.1).bind fun z => match z with
  | .bl true => (k r2.2).bind fun r3 => (ψ r2.1 r3.1).map fun d => (d, r3.2)
  | .bl false => some (.bl false, r2.2)
  | _ => none
theorem chn_ok {K : PySem.W.Frag} {B : Bs} {ta tb tc : TE} (hd : OpD K r φ) (hd' : OpD K r' ψ) (ha : ∀ σ H Q, Tv K B f σ H Q → ta σ H Q) (hb : ∀ σ H Q, Tv K B g σ H Q → tb σ H Q) (hc : ∀ σ H Q, Tv K B k σ H Q → tc σ H Q) (σ : L2.St) (H : Hp) (Q : VK)
    (h : Tv K B (chn f g k φ ψ) σ H Q) : tChain r r' ta tb tc σ H Q := by
  obtain ⟨G, s, d, s', R, h, kk⟩ := h
  unfold chn at h
  cases q1 : f s with
  | none => rw [q1] at h; cases h
  | some r1 =>
    rw [q1] at h
    obtain ⟨x, s1⟩ := r1
    simp only [Option.bind_some] at h
    cases q2 : g s1 with
    | none => rw [q2] at h; cases h
    | some r2 =>
      rw [q2] at h
      obtain ⟨y, s2⟩ := r2
      simp only [Option.bind_some] at h
      cases q3 : φ x y with
      | none => rw [q3] at h; cases h
      | some z =>
        rw [q3] at h
        simp only [Option.bind_some] at h
        refine ha σ H _ ⟨G, s, x, s1, R, q1, fun v G1 H1 a1 R1 r1 => hb σ H1 _ ⟨G1, s1, y, s2, R1, q2, fun w G2 H2 a2 R2 r2 => ?_⟩⟩
        refine hd B G2 H2 σ s2 x y z v w _ R2 (r1.mono a2) r2 q3 fun u G3 H3 a3 R3 r3 => ?_
        cases z with
        | bl t =>
          cases r3
          refine ⟨t, rfl, ?_⟩
          cases t with
          | false =>
            cases h
            rw [if_neg Bool.false_ne_true]
            exact kk _ G3 H3 ((a1.trans a2).trans a3) R3 (.bl false)
          | true =>
            rw [if_pos rfl]
            simp only at h
            cases q4 : k s2 with
            | none => rw [q4] at h; cases h
            | some r4 =>
              rw [q4] at h
              obtain ⟨z4, s4⟩ := r4
              simp only [Option.bind_some] at h
              cases q5 : ψ y z4 with
              | none => rw [q5] at h; cases h
              | some z5 =>
                rw [q5] at h; cases h
                exact hc σ H3 _ ⟨G3, s2, z4, s', R3, q4, fun w4 G4 H4 a4 R4 r4 => hd' B G4 H4 σ s' y z4 d w w4 Q R4 (r2.mono (a3.trans a4)) r4 q5 fun u5 G5 H5 a5 R5 r5 =>
                  kk u5 G5 H5 ((((a1.trans a2).trans a3).trans a4).trans a5) R5 r5⟩
        | _ => cases h
theorem ev_chain {op op' : CmpOp} (ho : OpR X (compareOp op) r) (ho' : OpR X (compareOp op') r') (hd : OpD X.K r φ) (hd' : OpD X.K r' ψ) (ha : EV X a f) (hb : EV X b g) (hc : EV X c k)
    (hm : lastMarks [op, op'] [b, c] = false := by with_unfolding_all rfl) : EV X (.Compare a [op, op'] [b, c] pos) (chn f g k φ ψ) := fun B =>
  PE.weak (pe_chain ho ho' (ha B) (hb B) (hc B) hm) (chn_ok hd hd' (fun _ _ _ h => h) (fun _ _ _ h => h) fun _ _ _ h => h)
theorem tv_chain {op op' : CmpOp} (ho : OpR X (compareOp op) r) (ho' : OpR X (compareOp op') r') (hd : OpD X.K r φ) (hd' : OpD X.K r' ψ) (ha : EV X a f) (hb : EV X b g) (hc : EV X c k)
    (hm : lastMarks [op, op'] [b, c] = false := by with_unfolding_all rfl) : TV X (.Compare a [op, op'] [b, c] pos) (tst (chn f g k φ ψ)) := fun B =>
  PT.weak (pt_chain ho ho' (ha B) (hb B) (hc B) hm) (tst_ok (chn_ok hd hd' (fun _ _ _ h => h) (fun _ _ _ h => h) fun _ _ _ h => h))
end
end DL
namespace DL
open PySem L2
section
variable {X : Cx} {a b c e : Expr} {es rest : List Expr} {f g k : S → Option (D × S)} {u v w : S → Option (Bool × S)} {pos p : Pos}
/-! ### and, or, not, if as values -/
def andv (f g : S → Option (D × S)) (s : S) : Option (D × S) := (f s).bind fun r => match r.1 with | .bl true => g r.2 | .bl false => some (.bl false, r.2) | _ => none
def orv (f g : S → Option (D × S)) (s : S) : Option (D × S) := (f s).bind fun r => match r.1 with | .bl false => g r.2 | .bl true => some (.bl true, r.2) | _ => none
def notv (f : S → Option (D × S)) (s : S) : Option (D × S) := (f s).bind fun r => match r.1 with | .bl t => some (.bl (!t), r.2) | _ => none
theorem ev_one {op} (h : EV X a f) : EV X (.BoolOp op [a] pos) f := fun B => pe_one (h B)
theorem ev_and (ha : EV X a f) (hb : EV X (.BoolOp .And (b :: rest) pos) g) : EV X (.BoolOp .And (a :: b :: rest) pos) (andv f g) := fun B =>
  PE.weak (pe_and (ha B) (hb B)) fun σ H Q ⟨G, s, d, s', R, h, k⟩ => by
    unfold andv at h
    cases q : f s with
    | none => rw [q] at h; cases h
    | some r =>
      rw [q] at h
      obtain ⟨x, s1⟩ := r
      cases x with
      | bl t =>
        refine ⟨G, s, _, _, R, q, fun v G' H' a R' r' => ?_⟩
        cases r'
        refine ⟨t, rfl, ?_⟩
        cases t with
        | true => rw [if_pos rfl]; exact ⟨G', s1, d, s', R', h, fun v2 G2 H2 a2 R2 r2 => k v2 G2 H2 (a.trans a2) R2 r2⟩
        | false => cases h; rw [if_neg Bool.false_ne_true]; exact k _ G' H' a R' (.bl false)
      | _ => cases h
theorem ev_or (ha : EV X a f) (hb : EV X (.BoolOp .Or (b :: rest) pos) g) : EV X (.BoolOp .Or (a :: b :: rest) pos) (orv f g) := fun B =>
  PE.weak (pe_or (ha B) (hb B)) fun σ H Q ⟨G, s, d, s', R, h, k⟩ => by
    unfold orv at h
    cases q : f s with
    | none => rw [q] at h; cases h
    | some r =>
      rw [q] at h
      obtain ⟨x, s1⟩ := r
      cases x with
      | bl t =>
        refine ⟨G, s, _, _, R, q, fun v G' H' a R' r' => ?_⟩
        cases r'
        refine ⟨t, rfl, ?_⟩
        cases t with
        | false => rw [if_neg Bool.false_ne_true]; exact ⟨G', s1, d, s', R', h, fun v2 G2 H2 a2 R2 r2 => k v2 G2 H2 (a.trans a2) R2 r2⟩
        | true => cases h; rw [if_pos rfl]; exact k _ G' H' a R' (.bl true)
      | _ => cases h
theorem ev_not (ha : EV X a f) : EV X (.UnaryOp .Not a pos) (notv f) := fun B =>
  PE.weak (pe_not (ha B)) fun σ H Q ⟨G, s, d, s', R, h, k⟩ => by
    unfold notv at h
    cases q : f s with
    | none => rw [q] at h; cases h
    | some r =>
      rw [q] at h
      obtain ⟨x, s1⟩ := r
      cases x with
      | bl t =>
        cases h
        exact ⟨G, s, _, _, R, q, fun v G' H' a R' r' => by cases r'; exact ⟨t, rfl, k _ G' H' a R' (.bl _)⟩⟩
      | _ => cases h
def ifv (u : S → Option (Bool × S)) (f g : S → Option (D × S)) (s : S) : Option (D × S) := (u s).bind fun r => match r.1 with | true => f r.2 | false => g r.2
theorem ev_if (hc : TV X c u) (ha : EV X a f) (hb : EV X b g) : EV X (.IfExp c a b pos) (ifv u f g) := fun B =>
  PE.weak (pe_ifExp (hc B) (ha B) (hb B)) fun σ H Q ⟨G, s, d, s', R, h, k⟩ => by
    unfold ifv at h
    cases q : u s with
    | none => rw [q] at h; cases h
    | some r =>
      rw [q] at h
      obtain ⟨t, s1⟩ := r
      refine ⟨G, s, t, s1, R, q, fun G' H' a R' => ?_⟩
      cases t with
      | true => rw [if_pos rfl]; exact ⟨G', s1, d, s', R', h, fun v2 G2 H2 a2 R2 r2 => k v2 G2 H2 (a.trans a2) R2 r2⟩
      | false => rw [if_neg Bool.false_ne_true]; exact ⟨G', s1, d, s', R', h, fun v2 G2 H2 a2 R2 r2 => k v2 G2 H2 (a.trans a2) R2 r2⟩
/-! ### .. as tests -/
def andt (u v : S → Option (Bool × S)) (s : S) : Option (Bool × S) := (u s).bind fun r => match r.1 with | true => v r.2 | false => some (false, r.2)
def ort (u v : S → Option (Bool × S)) (s : S) : Option (Bool × S) := (u s).bind fun r => match r.1 with | false => v r.2 | true => some (true, r.2)
def nott (u : S → Option (Bool × S)) (s : S) : Option (Bool × S) := (u s).map fun r => (!r.1, r.2)
theorem tw_and1 (ha : TV X a u) : TW X (.BoolOp .And [a] pos) u := fun B => pw_and1 (ha B)
theorem tw_or1 (ha : TV X a u) : TW X (.BoolOp .Or [a] pos) u := fun B => pw_or1 (ha B)
theorem tw_and (ha : TV X a u) (hb : TW X (.BoolOp .And (b :: rest) pos) v) : TW X (.BoolOp .And (a :: b :: rest) pos) (andt u v) := fun B =>
  PW.weak (pw_and (ha B) (hb B)) fun σ H Q ⟨G, s, d, s', R, h, k⟩ => by
    unfold andt at h
    cases q : u s with
    | none => rw [q] at h; cases h
    | some r =>
      rw [q] at h
      obtain ⟨t, s1⟩ := r
      refine ⟨G, s, t, s1, R, q, fun G' H' a R' => ?_⟩
      cases t with
      | true => rw [if_pos rfl]; exact ⟨G', s1, d, s', R', h, fun G2 H2 a2 R2 => k G2 H2 (a.trans a2) R2⟩
      | false => cases h; rw [if_neg Bool.false_ne_true]; exact k G' H' a R'
theorem tw_or (ha : TV X a u) (hb : TW X (.BoolOp .Or (b :: rest) pos) v) : TW X (.BoolOp .Or (a :: b :: rest) pos) (ort u v) := fun B =>
  PW.weak (pw_or (ha B) (hb B)) fun σ H Q ⟨G, s, d, s', R, h, k⟩ => by
    unfold ort at h
    cases q : u s with
    | none => rw [q] at h; cases h
    | some r =>
      rw [q] at h
      obtain ⟨t, s1⟩ := r
      refine ⟨G, s, t, s1, R, q, fun G' H' a R' => ?_⟩
      cases t with
      | false => rw [if_neg Bool.false_ne_true]; exact ⟨G', s1, d, s', R', h, fun G2 H2 a2 R2 => k G2 H2 (a.trans a2) R2⟩
      | true => cases h; rw [if_pos rfl]; exact k G' H' a R'
theorem tv_w {e : Expr} (h : TW X e u) : TV X e u := fun B => (h B).pt
theorem tv_not (ha : TV X a u) : TV X (.UnaryOp .Not a pos) (nott u) := fun B =>
  PT.weak (pt_not (ha B)) fun σ H Q ⟨G, s, d, s', R, h, k⟩ => by
    unfold nott at h
    cases q : u s with
    | none => rw [q] at h; cases h
    | some r =>
      rw [q] at h
      obtain ⟨t, s1⟩ := r
      cases h
      exact ⟨G, s, t, s1, R, q, fun G' H' a R' => k G' H' a R'⟩
/-! ### arguments -/
def anil (s : S) : Option (List D × S) := some ([], s)
def acons (f : S → Option (D × S)) (t : S → Option (List D × S)) (s : S) : Option (List D × S) := (f s).bind fun r => (t r.2).map fun q => (r.1 :: q.1, q.2)
theorem av_nil : AV X [] anil := fun B => PA.weak pa_nil fun σ H Q ⟨G, s, d, s', R, h, k⟩ => by cases h; exact k [] G H (Same.refl G) R .nil
theorem av_cons {t : S → Option (List D × S)} (ha : EV X a f) (hr : AV X es t) (hs : starEach (a :: es) X.env = (false, eval a X.env) :: starEach es X.env := by rfl) : AV X (a :: es) (acons f t) := fun B =>
  PA.weak (pa_cons (ha B) (hr B) hs) fun σ H Q ⟨G, s, d, s', R, h, k⟩ => by
    unfold acons at h
    cases q : f s with
    | none => rw [q] at h; cases h
    | some r =>
      rw [q] at h
      obtain ⟨x, s1⟩ := r
      simp only [Option.bind_some] at h
      cases q2 : t s1 with
      | none => rw [q2] at h; cases h
      | some r2 =>
        rw [q2] at h
        obtain ⟨xs, s2⟩ := r2
        cases h
        exact ⟨G, s, x, s1, R, q, fun v G1 H1 a1 R1 r1 => ⟨G1, s1, xs, _, R1, q2, fun vs G2 H2 a2 R2 r2 => k _ G2 H2 (a1.trans a2) R2 (.cons (r1.mono a2) r2)⟩⟩
def seqD : D → Option (List D)
  | .tup ds => some ds
  | .lst ds => some ds
  | .fl ds => some ds
  | _ => none
theorem seq_ok {K : PySem.W.Frag} {G H : Hp} {d : D} {v : V} {ds : List D} (hs : Same G H) (r : Rep K G d v) (h : seqD d = some ds) : ∃ p vs, v = .ref p ∧ (SqT K H p vs ∨ SqL K H p vs) ∧ RepL K G ds vs := by
  cases r with
  | tup h1 h2 => cases h; exact ⟨_, _, rfl, .inl (same_t hs h1), h2⟩
  | lst h1 h2 => cases h; exact ⟨_, _, rfl, .inr (SqL.of (hs _ _ h1)), h2⟩
  | fl h1 h2 => cases h; exact ⟨_, _, rfl, .inr (hs.seq h1), h2⟩
  | _ => cases h
/-- *e -/
def astar (f : S → Option (D × S)) (t : S → Option (List D × S)) (s : S) : Option (List D × S) := (f s).bind fun r => (seqD r.1).bind fun ds => (t r.2).map fun q => (ds ++ q.1, q.2)
theorem av_star {t : S → Option (List D × S)} (ha : EV X a f) (hr : AV X es t) (hs : starEach (.Starred a p :: es) X.env = (true, eval a X.env) :: starEach es X.env := by rfl) : AV X (.Starred a p :: es) (astar f t) := fun B =>
  PA.weak (StX.pa_star (ha B) (hr B) hs) fun σ H Q ⟨G, s, d, s', R, h, k⟩ => by
    unfold astar at h
    cases q : f s with
    | none => rw [q] at h; cases h
    | some r =>
      rw [q] at h
      obtain ⟨x, s1⟩ := r
      simp only [Option.bind_some] at h
      cases q1 : seqD x with
      | none => rw [q1] at h; cases h
      | some ds =>
        rw [q1] at h
        simp only [Option.bind_some] at h
        cases q2 : t s1 with
        | none => rw [q2] at h; cases h
        | some r2 =>
          rw [q2] at h
          obtain ⟨xs, s2⟩ := r2
          cases h
          refine ⟨G, s, x, s1, R, q, fun v G1 H1 a1 R1 r1 => ?_⟩
          obtain ⟨p, vs, e, z, rl⟩ := seq_ok R1.sub r1 q1
          exact ⟨p, vs, e, z, G1, s1, xs, _, R1, q2, fun ws G2 H2 a2 R2 r2 => k _ G2 H2 (a1.trans a2) R2 ((rl.mono a2).app r2)⟩
/-- .. of a list of a name's own -/
def astarB (f : S → Option (List D × S)) (t : S → Option (List D × S)) (s : S) : Option (List D × S) := (f s).bind fun r => (t r.2).map fun q => (r.1 ++ q.1, q.2)
theorem av_starB {f : S → Option (List D × S)} {t : S → Option (List D × S)} (ha : EB X a f) (hr : AV X es t) (hs : starEach (.Starred a p :: es) X.env = (true, eval a X.env) :: starEach es X.env := by rfl) : AV X (.Starred a p :: es) (astarB f t) := fun B =>
  PA.weak (StX.pa_star (ha B) (hr B) hs) fun σ H Q ⟨G, s, d, s', R, h, k⟩ => by
    unfold astarB at h
    cases q : f s with
    | none => rw [q] at h; cases h
    | some r =>
      rw [q] at h
      obtain ⟨x, s1⟩ := r
      simp only [Option.bind_some] at h
      cases q2 : t s1 with
      | none => rw [q2] at h; cases h
      | some r2 =>
        rw [q2] at h
        obtain ⟨xs, s2⟩ := r2
        cases h
        exact ⟨G, s, x, s1, R, q, fun p vs G1 H1 a1 R1 l1 r1 => ⟨p, vs, rfl, .inr l1, G1, s1, xs, _, R1, q2, fun ws G2 H2 a2 R2 r2 => k _ G2 H2 (a1.trans a2) R2 ((r1.mono a2).app r2)⟩⟩
/-! ### displays -/
def szOk (n : Nat) : Bool := decide (n ≤ 16777216)
theorem szOk_le {n : Nat} (h : szOk n = true) : n ≤ sizeLine := by rw [sizeLine_eq]; exact of_decide_eq_true h
def mkT (t : S → Option (List D × S)) (s : S) : Option (D × S) := (t s).bind fun r => if szOk r.1.length = true then some (.tup r.1, r.2) else none
def mkL (t : S → Option (List D × S)) (s : S) : Option (List D × S) := (t s).bind fun r => if szOk r.1.length = true then some (r.1, r.2) else none
theorem ev_tup {t : S → Option (List D × S)} {x1} (h : AV X es t) : EV X (.Tuple es x1 pos) (mkT t) := fun B =>
  PE.weak (pe_tup (h B)) fun σ H Q ⟨G, s, d, s', R, h, k⟩ => by
    unfold mkT at h
    cases q : t s with
    | none => rw [q] at h; cases h
    | some r =>
      rw [q] at h
      obtain ⟨x, s1⟩ := r
      simp only [Option.bind_some] at h
      split at h
      · rename_i hz
        cases h
        refine ⟨G, s, x, _, R, q, fun vs G1 H1 a1 R1 r1 => ⟨by rw [← r1.length]; exact szOk_le hz, fun p hp => ?_⟩⟩
        have hg := R1.gnone hp
        exact k _ (upd G1 p (.tup vs)) _ (a1.trans (same_upd hg)) (R1.allocG hp) (.tup (SqT.of upd_same) (r1.mono (same_upd hg)))
      · cases h
theorem fresh_new {K : PySem.W.Frag} {B : Bs} {G H : Hp} {σ : L2.St} {s : S} {p : Addr} {vs : List V} (R : Rp K B G H σ s) (hp : H p = none) : Rp K B G (upd H p (.lst vs)) σ s ∧ Fresh B G (upd H p (.lst vs)) σ s p vs :=
  ⟨R.alloc hp, upd_same, R.gnone hp, R.fF hp, fun i es e z => by
    obtain ⟨b, ws, e1, a1, _⟩ := R.ownAt e
    rw [e1] at z; cases z
    rw [hp] at a1; cases a1⟩
theorem eo_lst {t : S → Option (List D × S)} (h : AV X es t) : EO X (.List es pos) (mkL t) := fun B =>
  PE.weak (pe_lst (h B)) fun σ H Q ⟨G, s, d, s', R, h, k⟩ => by
    unfold mkL at h
    cases q : t s with
    | none => rw [q] at h; cases h
    | some r =>
      rw [q] at h
      obtain ⟨x, s1⟩ := r
      simp only [Option.bind_some] at h
      split at h
      · rename_i hz
        simp only [Option.some.injEq, Prod.mk.injEq] at h
        obtain ⟨rfl, rfl⟩ := h
        refine ⟨G, s, x, s1, R, q, fun vs G1 H1 a1 R1 r1 => ⟨by rw [← r1.length]; exact szOk_le hz, fun p hp => ?_⟩⟩
        obtain ⟨R2, F2⟩ := fresh_new (vs := vs) R1 hp
        exact k p vs G1 _ a1 R2 F2 r1
      · cases h
/-! ### built-in functions -/
def call1 (t : S → Option (List D × S)) (φ : List D → Option D) (s : S) : Option (D × S) := (t s).bind fun r => (φ r.1).map fun d => (d, r.2)
def callo (t : S → Option (List D × S)) (φ : List D → Option (List D)) (s : S) : Option (List D × S) := (t s).bind fun r => (φ r.1).map fun d => (d, r.2)
def CallD (K : PySem.W.Frag) (r : List V → Hp → VK → Prop) (φ : List D → Option D) : Prop := ∀ (B : Bs) (G H : Hp) (σ : L2.St) (s : S) (ds : List D) (d : D) (vs : List V) (Q : VK), Rp K B G H σ s → RepL K G ds vs → φ ds = some d →
  (∀ u G' H', Same G G' → Rp K B G' H' σ s → Rep K G' d u → Q u H') → r vs H Q
def CallO (K : PySem.W.Frag) (r : List V → Hp → VK → Prop) (φ : List D → Option (List D)) : Prop := ∀ (G H : Hp) (ds es : List D) (vs : List V) (Q : VK), Same G H → RepL K G ds vs → φ ds = some es →
  (∀ p ws, H p = none → RepL K G es ws → Q (.ref p) (upd H p (.lst ws))) → r vs H Q
/-- .. of one list that is looked at -/
def CallL (K : PySem.W.Frag) (r : List V → Hp → VK → Prop) (φ : List D → Option D) : Prop := ∀ (B : Bs) (G H : Hp) (σ : L2.St) (s : S) (ds : List D) (d : D) (p : Addr) (vs : List V) (Q : VK), Rp K B G H σ s → SqL K H p vs → RepL K G ds vs → φ ds = some d →
  (∀ u G' H', Same G G' → Rp K B G' H' σ s → Rep K G' d u → Q u H') → r [.ref p] H Q
def CallLO (K : PySem.W.Frag) (r : List V → Hp → VK → Prop) (φ : List D → Option (List D)) : Prop := ∀ (G H : Hp) (ds es : List D) (p : Addr) (vs : List V) (Q : VK), Same G H → SqL K H p vs → RepL K G ds vs → φ ds = some es →
  (∀ p ws, H p = none → RepL K G es ws → Q (.ref p) (upd H p (.lst ws))) → r [.ref p] H Q
section
variable {r : List V → Hp → VK → Prop} {φ : List D → Option D} {ψ : List D → Option (List D)} {t : S → Option (List D × S)} {x : Str} {id : String}
theorem cb_ok {K : PySem.W.Frag} {B : Bs} {ta : TA} (hd : CallD K r φ) (ha : ∀ σ H Q, Ta K B t σ H Q → ta σ H Q) (σ : L2.St) (H : Hp) (Q : VK) (h : Tv K B (call1 t φ) σ H Q) : tCB r ta σ H Q := by
  obtain ⟨G, s, d, s', R, h, k⟩ := h
  unfold call1 at h
  cases q : t s with
  | none => rw [q] at h; cases h
  | some r1 =>
    rw [q] at h
    obtain ⟨ds, s1⟩ := r1
    simp only [Option.bind_some] at h
    cases q2 : φ ds with
    | none => rw [q2] at h; cases h
    | some z =>
      rw [q2] at h; cases h
      exact ha σ H _ ⟨G, s, ds, s', R, q, fun vs G1 H1 a1 R1 r1 => hd B G1 H1 σ s' ds d vs Q R1 r1 q2 fun u G2 H2 a2 R2 r2 => k u G2 H2 (a1.trans a2) R2 r2⟩
theorem cbo_ok {K : PySem.W.Frag} {B : Bs} {ta : TA} (hd : CallO K r ψ) (ha : ∀ σ H Q, Ta K B t σ H Q → ta σ H Q) (σ : L2.St) (H : Hp) (Q : VK) (h : To K B (callo t ψ) σ H Q) : tCB r ta σ H Q := by
  obtain ⟨G, s, d, s', R, h, k⟩ := h
  unfold callo at h
  cases q : t s with
  | none => rw [q] at h; cases h
  | some r1 =>
    rw [q] at h
    obtain ⟨ds, s1⟩ := r1
    simp only [Option.bind_some] at h
    cases q2 : ψ ds with
    | none => rw [q2] at h; cases h
    | some z =>
      rw [q2] at h; cases h
      refine ha σ H _ ⟨G, s, ds, s', R, q, fun vs G1 H1 a1 R1 r1 => hd G1 H1 ds d vs Q R1.sub r1 q2 fun p ws hp rw' => ?_⟩
      obtain ⟨R2, F2⟩ := fresh_new (vs := ws) R1 hp
      exact k p ws G1 _ a1 R2 F2 rw'
theorem ev_callB (hc : CallR X (.builtin id) r) (hd : CallD X.K r φ) (hm : X.mg x = none) (hv : bootBuiltins x = some (.builtin id)) (ha : AV X (e :: es) t) (hg : Gl X x := by rfl) (hn : x ≠ "__name__" := by decide) (hdb : (x == ("__debug__" : Str)) = false := by decide)
    (he : starEach (e :: es) X.env = (false, eval e X.env) :: starEach es X.env := by rfl) (hpl : (backTo pos (starEach es X.env)).any (·.1) = false := by rfl) : EV X (.Call (.Name x p) (e :: es) [] pos) (call1 t φ) := fun B =>
  PE.weak (pe_callB hc hg hm hv (ha B) hn hdb he hpl) (cb_ok hd fun _ _ _ h => h)
theorem ev_callTy (hc : CallR X (.type id) r) (hd : CallD X.K r φ) (hm : X.mg x = none) (hv : bootBuiltins x = some (.type id)) (ha : AV X (e :: es) t) (hg : Gl X x := by rfl) (hn : x ≠ "__name__" := by decide) (hdb : (x == ("__debug__" : Str)) = false := by decide)
    (he : starEach (e :: es) X.env = (false, eval e X.env) :: starEach es X.env := by rfl) (hpl : (backTo pos (starEach es X.env)).any (·.1) = false := by rfl) : EV X (.Call (.Name x p) (e :: es) [] pos) (call1 t φ) := fun B =>
  PE.weak (pe_callTy hc hg hm hv (ha B) hn hdb he hpl) (cb_ok hd fun _ _ _ h => h)
theorem eo_callB (hc : CallR X (.builtin id) r) (hd : CallO X.K r ψ) (hm : X.mg x = none) (hv : bootBuiltins x = some (.builtin id)) (ha : AV X (e :: es) t) (hg : Gl X x := by rfl) (hn : x ≠ "__name__" := by decide) (hdb : (x == ("__debug__" : Str)) = false := by decide)
    (he : starEach (e :: es) X.env = (false, eval e X.env) :: starEach es X.env := by rfl) (hpl : (backTo pos (starEach es X.env)).any (·.1) = false := by rfl) : EO X (.Call (.Name x p) (e :: es) [] pos) (callo t ψ) := fun B =>
  PE.weak (pe_callB hc hg hm hv (ha B) hn hdb he hpl) (cbo_ok hd fun _ _ _ h => h)
theorem eo_callTy (hc : CallR X (.type id) r) (hd : CallO X.K r ψ) (hm : X.mg x = none) (hv : bootBuiltins x = some (.type id)) (ha : AV X (e :: es) t) (hg : Gl X x := by rfl) (hn : x ≠ "__name__" := by decide) (hdb : (x == ("__debug__" : Str)) = false := by decide)
    (he : starEach (e :: es) X.env = (false, eval e X.env) :: starEach es X.env := by rfl) (hpl : (backTo pos (starEach es X.env)).any (·.1) = false := by rfl) : EO X (.Call (.Name x p) (e :: es) [] pos) (callo t ψ) := fun B =>
  PE.weak (pe_callTy hc hg hm hv (ha B) hn hdb he hpl) (cbo_ok hd fun _ _ _ h => h)
/-- .. one list looked at -/
def arg1 (t : S → Option (List D × S)) (s : S) : Option (List D × S) := t s
theorem cl_ok {K : PySem.W.Frag} {B : Bs} {te : TE} (hd : CallL K r φ) (ha : ∀ σ H Q, Tb K B t σ H Q → te σ H Q) (σ : L2.St) (H : Hp) (Q : VK) (h : Tv K B (call1 t φ) σ H Q) : tCB r (tCons te tNil) σ H Q := by
  obtain ⟨G, s, d, s', R, h, k⟩ := h
  unfold call1 at h
  cases q : t s with
  | none => rw [q] at h; cases h
  | some r1 =>
    rw [q] at h
    obtain ⟨ds, s1⟩ := r1
    simp only [Option.bind_some] at h
    cases q2 : φ ds with
    | none => rw [q2] at h; cases h
    | some z =>
      rw [q2] at h; cases h
      exact ha σ H _ ⟨G, s, ds, s', R, q, fun p vs G1 H1 a1 R1 l1 r1 => hd B G1 H1 σ s' ds d p vs Q R1 l1 r1 q2 fun u G2 H2 a2 R2 r2 => k u G2 H2 (a1.trans a2) R2 r2⟩
theorem clo_ok {K : PySem.W.Frag} {B : Bs} {te : TE} (hd : CallLO K r ψ) (ha : ∀ σ H Q, Tb K B t σ H Q → te σ H Q) (σ : L2.St) (H : Hp) (Q : VK) (h : To K B (callo t ψ) σ H Q) : tCB r (tCons te tNil) σ H Q := by
  obtain ⟨G, s, d, s', R, h, k⟩ := h
  unfold callo at h
  cases q : t s with
  | none => rw [q] at h; cases h
  | some r1 =>
    rw [q] at h
    obtain ⟨ds, s1⟩ := r1
    simp only [Option.bind_some] at h
    cases q2 : ψ ds with
    | none => rw [q2] at h; cases h
    | some z =>
      rw [q2] at h; cases h
      refine ha σ H _ ⟨G, s, ds, s', R, q, fun p vs G1 H1 a1 R1 l1 r1 => hd G1 H1 ds d p vs Q R1.sub l1 r1 q2 fun p ws hp rw' => ?_⟩
      obtain ⟨R2, F2⟩ := fresh_new (vs := ws) R1 hp
      exact k p ws G1 _ a1 R2 F2 rw'
theorem ev_callBL (hc : CallR X (.builtin id) r) (hd : CallL X.K r φ) (hm : X.mg x = none) (hv : bootBuiltins x = some (.builtin id)) (ha : EB X e t) (hg : Gl X x := by rfl) (hn : x ≠ "__name__" := by decide) (hdb : (x == ("__debug__" : Str)) = false := by decide)
    (hs : starEach (e :: []) X.env = (false, eval e X.env) :: starEach [] X.env := by rfl) : EV X (.Call (.Name x p) [e] [] pos) (call1 t φ) := fun B =>
  PE.weak (pe_callB hc hg hm hv (pa_cons (ha B) pa_nil hs) hn hdb hs rfl) (cl_ok hd fun _ _ _ h => h)
theorem ev_callTyL (hc : CallR X (.type id) r) (hd : CallL X.K r φ) (hm : X.mg x = none) (hv : bootBuiltins x = some (.type id)) (ha : EB X e t) (hg : Gl X x := by rfl) (hn : x ≠ "__name__" := by decide) (hdb : (x == ("__debug__" : Str)) = false := by decide)
    (hs : starEach (e :: []) X.env = (false, eval e X.env) :: starEach [] X.env := by rfl) : EV X (.Call (.Name x p) [e] [] pos) (call1 t φ) := fun B =>
  PE.weak (pe_callTy hc hg hm hv (pa_cons (ha B) pa_nil hs) hn hdb hs rfl) (cl_ok hd fun _ _ _ h => h)
theorem eo_callBL (hc : CallR X (.builtin id) r) (hd : CallLO X.K r ψ) (hm : X.mg x = none) (hv : bootBuiltins x = some (.builtin id)) (ha : EB X e t) (hg : Gl X x := by rfl) (hn : x ≠ "__name__" := by decide) (hdb : (x == ("__debug__" : Str)) = false := by decide)
    (hs : starEach (e :: []) X.env = (false, eval e X.env) :: starEach [] X.env := by rfl) : EO X (.Call (.Name x p) [e] [] pos) (callo t ψ) := fun B =>
  PE.weak (pe_callB hc hg hm hv (pa_cons (ha B) pa_nil hs) hn hdb hs rfl) (clo_ok hd fun _ _ _ h => h)
theorem eo_callTyL (hc : CallR X (.type id) r) (hd : CallLO X.K r ψ) (hm : X.mg x = none) (hv : bootBuiltins x = some (.type id)) (ha : EB X e t) (hg : Gl X x := by rfl) (hn : x ≠ "__name__" := by decide) (hdb : (x == ("__debug__" : Str)) = false := by decide)
    (hs : starEach (e :: []) X.env = (false, eval e X.env) :: starEach [] X.env := by rfl) : EO X (.Call (.Name x p) [e] [] pos) (callo t ψ) := fun B =>
  PE.weak (pe_callTy hc hg hm hv (pa_cons (ha B) pa_nil hs) hn hdb hs rfl) (clo_ok hd fun _ _ _ h => h)
end
end
end DL
namespace DL
open PySem L2
/-! ### a list of a name's own, changed -/
def putO (i : Nat) (es : List D) (s : S) : Option S := match s.e[i]? with
  | some (.own _) => some (s.setO i es)
  | some .io => some ⟨s.e, es⟩
  | _ => none
def ownO (i : Nat) (s : S) : Option (List D) := match s.e[i]? with
  | some (.own ds) => some ds
  | some .io => some s.m
  | _ => none
section
variable {K : PySem.W.Frag} {B : Bs} {G G' H H' : Hp} {σ : L2.St} {s s' : S} {i : Nat} {ds es : List D} {p : Addr} {vs : List V}
theorem ownO_ok (R : Rp K B G H σ s) (h : ownO i s = some ds) : ∃ p vs, σ[i]? = some (some (.ref p)) ∧ H p = some (.lst vs) ∧ RepL K G ds vs ∧ G p = none := by
  unfold ownO at h
  cases q : s.e[i]? with
  | none => rw [q] at h; cases h
  | some sl =>
    rw [q] at h
    cases sl with
    | no => cases h
    | v d => cases h
    | io =>
      cases h
      obtain ⟨p, e, hi⟩ := R.ioAt q
      obtain ⟨vs, a1, a2, a3⟩ := R.iok p hi
      exact ⟨p, vs, e, a1, a2, a3⟩
    | own es =>
      cases h
      obtain ⟨p, vs, e, a1, a2, a3, a4⟩ := R.ownAt q
      exact ⟨p, vs, e, a1, a2, a3⟩
/-- the heap goes on at p, the list that the name i holds -/
theorem putO_ok (R : Rp K B G H σ s) (h : putO i es s = some s') (hp : σ[i]? = some (some (.ref p))) (hG : Same G G') (sub' : Same G' H') (nw : ∀ b o, G' b = some o → G b = some o ∨ H b = none)
    (kp : ∀ b o, H b = some o → b ≠ p → H' b = some o) (hp' : H' p = some (.lst vs)) (r : RepL K G' es vs) : Rp K B G' H' σ s' := by
  unfold putO at h
  cases q : s.e[i]? with
  | none => rw [q] at h; cases h
  | some sl =>
    rw [q] at h
    cases sl with
    | no => cases h
    | v d => cases h
    | own ds => cases h; exact R.mutO q hp hG sub' nw kp hp' r
    | io =>
      cases h
      obtain ⟨p', e, hi⟩ := R.ioAt q
      rw [hp] at e; cases e
      exact R.mutI hi hG sub' nw kp hp' r
theorem putO_upd (R : Rp K B G H σ s) (h : putO i es s = some s') (hp : σ[i]? = some (some (.ref p))) (hg : G p = none) (r : RepL K G es vs) : Rp K B G (upd H p (.lst vs)) σ s' :=
  putO_ok R h hp (Same.refl G) (fun b o q => by rw [upd_ne (ne_of_none q hg)]; exact R.sub b o q) (fun _ _ q => .inl q) (fun b o q n => by rw [upd_ne n]; exact q) upd_same r
end
/-! ### statements -/
def nxt (s : S) : Option Fl := some (.nx s)
def seqs (g h : S → Option Fl) (s : S) : Option Fl := (g s).bind fun o => match o with | .nx s' => h s' | o => some o
def never (s : S) : Option Fl := none
def brk (s : S) : Option Fl := some (.bk s)
def ctn (s : S) : Option Fl := some (.ct s)
def retv (f : S → Option (D × S)) (s : S) : Option Fl := (f s).map fun r => .rt r.1 r.2
def reto (f : S → Option (List D × S)) (s : S) : Option Fl := (f s).map fun r => .ro r.1 r.2
def drop1 (f : S → Option (D × S)) (s : S) : Option Fl := (f s).map fun r => .nx r.2
def ifs (u : S → Option (Bool × S)) (g h : S → Option Fl) (s : S) : Option Fl := (u s).bind fun r => match r.1 with | true => g r.2 | false => h r.2
def setv (i : Nat) (f : S → Option (D × S)) (s : S) : Option Fl := (f s).map fun r => .nx (r.2.setv i r.1)
def seto (i : Nat) (f : S → Option (List D × S)) (s : S) : Option Fl := (f s).map fun r => .nx (r.2.setO i r.1)
def asg (t : D → S → Option S) (f : S → Option (D × S)) (s : S) : Option Fl := (f s).bind fun r => (t r.1 r.2).map .nx
section
variable {X : Cx} {st : Stmt} {rest : List Stmt} {g h : S → Option Fl} {a b c e : Expr} {es : List Expr} {f : S → Option (D × S)} {u : S → Option (Bool × S)} {pos : Pos}
theorem svs_nil : SVs X [] nxt := fun B => PSs.weak pss_nil fun Dn σ H ⟨G, s, o, R, h, k⟩ => by cases h; exact k σ G H (Same.refl G) R
theorem svs_cons (h1 : SV X st g) (h2 : SVs X rest h) : SVs X (st :: rest) (seqs g h) := fun B =>
  PSs.weak (pss_cons (h1 B) (h2 B)) fun Dn σ H ⟨G, s, o, R, hh, k⟩ => by
    unfold seqs at hh
    cases q : g s with
    | none => rw [q] at hh; cases hh
    | some o1 =>
      rw [q] at hh
      refine ⟨G, s, o1, R, q, ?_⟩
      cases o1 with
      | nx s1 => exact fun σ' G' H' a R' => ⟨G', s1, o, R', hh, k.mono a⟩
      | rt d s1 => cases hh; exact k
      | ro d s1 => cases hh; exact k
      | bk s1 => cases hh; exact k
      | ct s1 => cases hh; exact k
theorem svs_one (h1 : SV X st g) : SVs X [st] g := fun B => pss_one (h1 B)
theorem sv_never : SV X st never := fun B => PS.weak ps_never fun Dn σ H ⟨G, s, o, R, h, k⟩ => by cases h
theorem svs_never : SVs X rest never := fun B => PSs.weak pss_never fun Dn σ H ⟨G, s, o, R, h, k⟩ => by cases h
theorem sv_pass : SV X (.Pass pos) nxt := fun B => PS.weak ps_pass fun Dn σ H ⟨G, s, o, R, h, k⟩ => by cases h; exact k σ G H (Same.refl G) R
theorem sv_break : SV X (.Break pos) brk := fun B => PS.weak ps_break fun Dn σ H ⟨G, s, o, R, h, k⟩ => by cases h; exact k σ G H (Same.refl G) R
theorem sv_continue : SV X (.Continue pos) ctn := fun B => PS.weak ps_continue fun Dn σ H ⟨G, s, o, R, h, k⟩ => by cases h; exact k σ G H (Same.refl G) R
theorem sv_expr (he : EV X e f) (hs : swapsWith e none pos.line X.env = pure false := by rfl) : SV X (.Expr e pos) (drop1 f) := fun B =>
  PS.weak (ps_expr (he B) hs) fun Dn σ H ⟨G, s, o, R, h, k⟩ => by
    unfold drop1 at h
    cases q : f s with
    | none => rw [q] at h; cases h
    | some r => rw [q] at h; cases h; exact ⟨G, s, r.1, r.2, R, q, fun v G' H' a R' r' => k σ G' H' a R'⟩
theorem sv_ret (he : EV X e f) : SV X (.Return (some e) pos) (retv f) := fun B =>
  PS.weak (ps_ret (he B)) fun Dn σ H ⟨G, s, o, R, h, k⟩ => by
    unfold retv at h
    cases q : f s with
    | none => rw [q] at h; cases h
    | some r => rw [q] at h; cases h; exact ⟨G, s, r.1, r.2, R, q, fun v G' H' a R' r' => k v σ G' H' a R' r'⟩
theorem sv_retO {f : S → Option (List D × S)} (he : EO X e f) : SV X (.Return (some e) pos) (reto f) := fun B =>
  PS.weak (ps_ret (he B)) fun Dn σ H ⟨G, s, o, R, h, k⟩ => by
    unfold reto at h
    cases q : f s with
    | none => rw [q] at h; cases h
    | some r => rw [q] at h; cases h; exact ⟨G, s, r.1, r.2, R, q, fun p vs G' H' a R' F r' => k p vs σ G' H' a R' ⟨F.1, F.2.1, F.2.2.1, fun i es e => by simp at e⟩ r'⟩
/-- return of a name that holds a list of its own -/
def retn (i : Nat) (s : S) : Option Fl := match s.e[i]? with | some (.own ds) => some (.ro ds s) | _ => none
theorem sv_retN (i : Nat) {x : Str} {pos2 : Pos} (hN : X.N[i]? = some x := by rfl) (hv : Vis X.env.scope x := by first | exact Or.inl rfl | exact Or.inr (Or.inl rfl) | exact Or.inr (Or.inr rfl)) (hd : (x == ("__debug__" : Str)) = false := by decide)
    (hcd : (x == ("__classdict__" : Str)) = false := by decide) : SV X (.Return (some (.Name x pos)) pos2) (retn i) := fun B =>
  PS.weak (ps_ret (pe_var (i := i) hN hv hd hcd)) fun Dn σ H ⟨G, s, o, R, h, k⟩ => by
    unfold retn at h
    cases q : s.e[i]? with
    | none => rw [q] at h; cases h
    | some sl =>
      rw [q] at h
      cases sl with
      | own ds =>
        cases h
        obtain ⟨p, vs, e, a1, a2, a3, a4⟩ := R.ownAt q
        exact ⟨_, e, k p vs σ G H (Same.refl G) R ⟨a1, a3, a4, fun i es e => by simp at e⟩ a2⟩
      | _ => cases h
theorem sv_retNone : SV X (.Return none pos) (retv (cst .non)) := fun B => PS.weak ps_retN fun Dn σ H ⟨G, s, o, R, h, k⟩ => by cases h; exact k .non σ G H (Same.refl G) R .non
theorem sv_if {p q : List Stmt} (hc : TV X c u) (ha : SVs X p g) (hb : SVs X q h) : SV X (.If c p q pos) (ifs u g h) := fun B =>
  PS.weak (ps_if (hc B) (ha B) (hb B)) fun Dn σ H ⟨G, s, o, R, hh, k⟩ => by
    unfold ifs at hh
    cases q : u s with
    | none => rw [q] at hh; cases hh
    | some r =>
      rw [q] at hh
      obtain ⟨t, s1⟩ := r
      refine ⟨G, s, t, s1, R, q, fun G' H' a R' => ?_⟩
      cases t with
      | true => rw [if_pos rfl]; exact ⟨G', s1, o, R', hh, k.mono a⟩
      | false => rw [if_neg Bool.false_ne_true]; exact ⟨G', s1, o, R', hh, k.mono a⟩
theorem sv_set (i : Nat) {x : Str} {pos' : Pos} (he : EV X e f) (hN : X.N.Nodup) (hi : X.N[i]? = some x := by rfl) (hx : Loc X.env.scope x := by first | exact Or.inl rfl | exact Or.inr rfl) (hs : swapsWith e (some (.Name x pos')) pos.line X.env = pure false := by rfl)
    (hf : X.fn x = true ∨ X.env.scope.names.lookup x = some .local := by first | exact .inl rfl | exact .inr rfl) : SV X (.Assign [.Name x pos'] e pos) (setv i f) := fun B =>
  PS.weak (ps_set hN hi hx (he B) hs hf) fun Dn σ H ⟨G, s, o, R, h, k⟩ => by
    unfold setv at h
    cases q : f s with
    | none => rw [q] at h; cases h
    | some r => rw [q] at h; cases h; exact ⟨G, s, r.1, r.2, R, q, fun v G' H' a R' r' => k _ G' H' a (R'.setv r')⟩
theorem sv_setO (i : Nat) {x : Str} {pos' : Pos} {f : S → Option (List D × S)} (he : EO X e f) (hN : X.N.Nodup) (hi : X.N[i]? = some x := by rfl) (hx : Loc X.env.scope x := by first | exact Or.inl rfl | exact Or.inr rfl) (hs : swapsWith e (some (.Name x pos')) pos.line X.env = pure false := by rfl)
    (hf : X.fn x = true ∨ X.env.scope.names.lookup x = some .local := by first | exact .inl rfl | exact .inr rfl) : SV X (.Assign [.Name x pos'] e pos) (seto i f) := fun B =>
  PS.weak (ps_set hN hi hx (he B) hs hf) fun Dn σ H ⟨G, s, o, R, h, k⟩ => by
    unfold seto at h
    cases q : f s with
    | none => rw [q] at h; cases h
    | some r => rw [q] at h; cases h; exact ⟨G, s, r.1, r.2, R, q, fun p vs G' H' a R' F r' => k _ G' H' a (R'.setO F.1 r' F.2.1 F.2.2.1 F.2.2.2)⟩
theorem sv_asg {tg : Expr} {t : D → S → Option S} (he : EV X e f) (hg : GV X tg t) (hs : swapsWithSole [tg] e pos.line X.env = pure false := by rfl) (hw : swappedStores [tg] e X.env = pure none := by rfl)
    (h1 : (assignEach [tg] X.env).map (·.2) = [assign tg X.env] := by rfl) : SV X (.Assign [tg] e pos) (asg t f) := fun B =>
  PS.weak (ps_asg (he B) (hg B) hs hw h1) fun Dn σ H ⟨G, s, o, R, h, k⟩ => by
    unfold asg at h
    cases q : f s with
    | none => rw [q] at h; cases h
    | some r =>
      rw [q] at h
      obtain ⟨d, s1⟩ := r
      simp only [Option.bind_some] at h
      cases q2 : t d s1 with
      | none => rw [q2] at h; cases h
      | some s2 =>
        rw [q2] at h; cases h
        exact ⟨G, s, d, s1, R, q, fun v G' H' a R' r' => ⟨G', s1, d, s2, R', r', q2, fun σ' G2 H2 a2 R2 => k σ' G2 H2 (a.trans a2) R2⟩⟩
/-! targets -/
def tgN (i : Nat) (d : D) (s : S) : Option S := some (s.setv i d)
def tgT (t : List D → S → Option S) (d : D) (s : S) : Option S := match d with | .tup ds => t ds s | _ => none
def tgs0 (ds : List D) (s : S) : Option S := match ds with | [] => some s | _ => none
def tgsC (t : D → S → Option S) (u : List D → S → Option S) (ds : List D) (s : S) : Option S := match ds with | [] => none | d :: r => (t d s).bind (u r)
theorem gv_name (i : Nat) {x : Str} (hN : X.N.Nodup) (hi : X.N[i]? = some x := by rfl) (hx : Loc X.env.scope x := by first | exact Or.inl rfl | exact Or.inr rfl) (hf : X.fn x = true ∨ X.env.scope.names.lookup x = some .local := by first | exact .inl rfl | exact .inr rfl) : GV X (.Name x pos) (tgN i) := fun B =>
  PG.weak (pg_name hN hi hx hf) fun v σ H Q ⟨G, s, d, s', R, r, h, k⟩ => by cases h; exact k _ G H (Same.refl G) (R.setv r)
theorem gvs_nil : GVs X [] tgs0 := fun B => PGs.weak pgs_nil fun v σ H Q ⟨G, s, d, s', R, r, h, k⟩ => by
  cases r with
  | nil => cases h; exact ⟨rfl, k _ G H (Same.refl G) R⟩
  | cons _ _ => cases h
theorem gvs_cons {t : D → S → Option S} {w : List D → S → Option S} (h1 : GV X e t) (h2 : GVs X es w) (hs : (assignEach (e :: es) X.env).map (·.2) = assign e X.env :: (assignEach es X.env).map (·.2) := by rfl) : GVs X (e :: es) (tgsC t w) := fun B =>
  PGs.weak (pgs_cons (h1 B) (h2 B) hs) fun v σ H Q ⟨G, s, d, s', R, r, h, k⟩ => by
    cases r with
    | nil => cases h
    | @cons d v ds vs r1 r2 =>
      unfold tgsC at h
      simp only at h
      cases q : t d s with
      | none => rw [q] at h; cases h
      | some s1 =>
        rw [q] at h
        exact ⟨v, vs, rfl, G, s, d, s1, R, r1, q, fun σ' G' H' a R' => ⟨G', s1, ds, s', R', r2.mono a, h, fun σ2 G2 H2 a2 R2 => k σ2 G2 H2 (a.trans a2) R2⟩⟩
theorem gv_tup {t : List D → S → Option S} {kk n : Nat} (hc : X.calm = true) (h : GVs X es t) (hn : (assignEach es X.env).length = n := by rfl) (hst : (assignEach es X.env).findIdx? (·.1) = none := by rfl)
    (hl : ∀ ds s s', t ds s = some s' → ds.length = n) : GV X (.Tuple es kk pos) (tgT t) := fun B =>
  PG.weak (pg_tup hc (h B) hn hst) fun v σ H Q ⟨G, s, d, s', R, r, h, k⟩ => by
    unfold tgT at h
    cases r with
    | @tup a vs ds h1 h2 =>
      simp only at h
      exact ⟨a, vs, rfl, same_t R.sub h1, by rw [← h2.length]; exact hl _ _ _ h, G, s, ds, s', R, h2, h, k⟩
    | _ => cases h
/-! parallel assignments of plain names -/
def par2 (i j : Nat) (t : S → Option (List D × S)) (s : S) : Option Fl := (t s).bind fun r => match r.1 with | [x, y] => some (.nx ((r.2.setv i x).setv j y)) | _ => none
theorem sv_par2 (i j : Nat) {x y : Str} {px py pt : Pos} {kt k2 pt2} {t : S → Option (List D × S)} (ha : AV X [a, b] t) (hc : X.calm = true) (hN : X.N.Nodup) (hi : X.N[i]? = some x := by rfl) (hj : X.N[j]? = some y := by rfl) (hij : i ≠ j := by decide)
    (hx : X.env.scope.names.lookup x = some .local := by rfl) (hy : X.env.scope.names.lookup y = some .local := by rfl)
    (hw : swappedStores [.Tuple [.Name x px, .Name y py] kt pt] (.Tuple [a, b] k2 pt2) X.env = pure (some [x, y]) := by rfl)
    (hs : swapsWithSole [.Tuple [.Name x px, .Name y py] kt pt] (.Tuple [a, b] k2 pt2) pos.line X.env = pure false := by rfl) :
    SV X (.Assign [.Tuple [.Name x px, .Name y py] kt pt] (.Tuple [a, b] k2 pt2) pos) (par2 i j t) := fun B =>
  PS.weak (ps_par hc hN hi hj hij hx hy (ha B) hw hs) fun Dn σ H ⟨G, s, o, R, h, k⟩ => by
    unfold par2 at h
    cases q : t s with
    | none => rw [q] at h; cases h
    | some r =>
      rw [q] at h
      obtain ⟨ds, s1⟩ := r
      simp only [Option.bind_some] at h
      split at h
      · rename_i d1 d2
        cases h
        refine ⟨G, s, _, _, R, q, fun vs G' H' a R' r' => ?_⟩
        cases r' with
        | cons r1 r' => cases r' with
          | cons r2 r' => cases r'; exact ⟨_, _, rfl, k _ G' H' a ((R'.setv r1).setv r2)⟩
      · cases h
/-! ### while -/
def whileF (c : S → Option (Bool × S)) (b : S → Option Fl) : Nat → S → Option Fl
  | 0, _ => none
  | n + 1, s => (c s).bind fun r => match r.1 with
    | false => some (.nx r.2)
    | true => (b r.2).bind fun o => match o with
      | .nx s' => whileF c b n s'
      | .ct s' => whileF c b n s'
      | .bk s' => some (.nx s')
      | o => some o
theorem sv_while (n : Nat) {body : List Stmt} (hp : PassesOwn (model X.prog X.w) X.A X.env X.xe) (hc : TV X c u) (hb : SVs X body g) : SV X (.While c body [] pos) (whileF u g n) := fun B =>
  PS.weak (ps_while hp (hc B) (hb B)) fun Dn σ H ⟨G, s, o, R, h, k⟩ => by
    refine ⟨fun m σ' H' => ∃ G' s', Same G G' ∧ Rp X.K B G' H' σ' s' ∧ whileF u g m s' = some o, ⟨n, G, s, Same.refl G, R, h⟩, ?_⟩
    rintro m σ1 H1 ⟨G1, s1, a1, R1, h1⟩
    cases m with
    | zero => cases h1
    | succ m =>
      unfold whileF at h1
      cases q : u s1 with
      | none => rw [q] at h1; cases h1
      | some r =>
        rw [q] at h1
        obtain ⟨t, s2⟩ := r
        refine ⟨G1, s1, t, s2, R1, q, fun G2 H2 a2 R2 => ?_⟩
        cases t with
        | false =>
          cases h1
          rw [if_neg Bool.false_ne_true]
          exact k σ1 G2 H2 (a1.trans a2) R2
        | true =>
          rw [if_pos rfl]
          refine ⟨fun σ' H' => ∃ G' s', Same G G' ∧ Rp X.K B G' H' σ' s' ∧ whileF u g m s' = some o, fun σ' H' w => ⟨m, Nat.lt_succ_self m, w⟩, ?_⟩
          simp only [Option.bind_some] at h1
          cases q2 : g s2 with
          | none => rw [q2] at h1; cases h1
          | some o2 =>
            rw [q2] at h1
            refine ⟨G2, s2, o2, R2, q2, ?_⟩
            cases o2 with
            | nx s3 => exact fun σ' G' H' a R' => ⟨G', s3, (a1.trans a2).trans a, R', h1⟩
            | ct s3 => exact fun σ' G' H' a R' => ⟨G', s3, (a1.trans a2).trans a, R', h1⟩
            | bk s3 => cases h1; exact fun σ' G' H' a R' => k σ' G' H' ((a1.trans a2).trans a) R'
            | rt d s3 => cases h1; exact (FlK.mono (a1.trans a2) k : FlK X.K B G2 Dn (.rt d s3))
            | ro d s3 => cases h1; exact (FlK.mono (a1.trans a2) k : FlK X.K B G2 Dn (.ro d s3))
/-! ### for -/
def forF (t : D → S → Option S) (b : S → Option Fl) : List D → S → Option Fl
  | [], s => some (.nx s)
  | d :: ds, s => (t d s).bind fun s1 => (b s1).bind fun o => match o with
      | .nx s' => forF t b ds s'
      | .ct s' => forF t b ds s'
      | .bk s' => some (.nx s')
      | o => some o
def fors (fi : S → Option (List D × S)) (t : D → S → Option S) (b : S → Option Fl) (s : S) : Option Fl := (fi s).bind fun r => forF t b r.1 r.2
theorem sv_for {iter tg : Expr} {body : List Stmt} {fi : S → Option (List D × S)} {t : D → S → Option S} (hp : PassesOwn (model X.prog X.w) X.A X.env X.xe) (hc : X.calm = true) (hi : IV X tg iter fi) (hg : GV X tg t) (hb : SVs X body g)
    (hs : ∀ x, foldedSetIterable iter X.env x = pure x := by intro _; rfl) : SV X (.For tg iter body [] pos) (fors fi t g) := fun B =>
  PS.weak (ps_for hp hc (hi B) (hg B) (hb B) hs) fun Dn σ H ⟨G, s, o, R, h, k⟩ => by
    unfold fors at h
    cases q : fi s with
    | none => rw [q] at h; cases h
    | some r =>
      rw [q] at h
      obtain ⟨ds, s1⟩ := r
      simp only [Option.bind_some] at h
      refine ⟨G, s, ds, s1, R, q, fun J G0 H0 a0 R0 wk => ?_⟩
      refine ⟨fun i m σ' H' => m = ds.length - i ∧ i ≤ ds.length ∧ ∃ G' s', Same G0 G' ∧ Rp X.K B G' H' σ' s' ∧ forF t g (ds.drop i) s' = some o, ⟨_, rfl, Nat.zero_le _, G0, s1, Same.refl _, R0, h⟩, ?_⟩
      rintro i m σ1 H1 ⟨rfl, hi, G1, s2, a1, R1, h1⟩
      obtain ⟨wstop, wgo⟩ := wk B G1 H1 σ1 s2 a1 R1
      by_cases hl : i < ds.length
      · refine .inr ?_
        have hd : ds[i]? = some ds[i] := List.getElem?_eq_getElem hl
        obtain ⟨go, yld⟩ := wgo i _ hd
        rw [List.drop_eq_getElem_cons hl] at h1
        unfold forF at h1
        refine ⟨go, fun σ' H' => i + 1 ≤ ds.length ∧ ∃ G' s', Same G0 G' ∧ Rp X.K B G' H' σ' s' ∧ forF t g (ds.drop (i + 1)) s' = some o, fun σ' H' w => ⟨ds.length - (i + 1), by omega, rfl, w.1, w.2⟩, fun x H2 y => ?_⟩
        obtain ⟨G2, a2, R2, r2, _⟩ := yld x H2 y
        cases q2 : t ds[i] s2 with
        | none => rw [q2] at h1; cases h1
        | some s3 =>
          rw [q2] at h1
          simp only [Option.bind_some] at h1
          refine ⟨G2, s2, ds[i], s3, R2, r2, q2, fun σ3 G3 H3 a3 R3 => ?_⟩
          cases q3 : g s3 with
          | none => rw [q3] at h1; cases h1
          | some o3 =>
            rw [q3] at h1
            refine ⟨G3, s3, o3, R3, q3, ?_⟩
            have ax := ((a0.trans a1).trans a2).trans a3
            cases o3 with
            | nx s4 => exact fun σ' G' H' a R' => ⟨hl, G', s4, ((a1.trans a2).trans a3).trans a, R', h1⟩
            | ct s4 => exact fun σ' G' H' a R' => ⟨hl, G', s4, ((a1.trans a2).trans a3).trans a, R', h1⟩
            | bk s4 => cases h1; exact fun σ' G' H' a R' => k σ' G' H' (ax.trans a) R'
            | rt d s4 => cases h1; exact (FlK.mono ax k : FlK X.K B G3 Dn (.rt d s4))
            | ro d s4 => cases h1; exact (FlK.mono ax k : FlK X.K B G3 Dn (.ro d s4))
      · have e : i = ds.length := by omega
        subst e
        rw [List.drop_length] at h1
        cases h1
        exact .inl ⟨wstop, k σ1 G1 H1 (a0.trans a1) R1⟩
end
/-! ### what is walked -/
section
variable {X : Cx} {tg e : Expr} {pos p : Pos} {K : PySem.W.Frag}
def itS (f : S → Option (D × S)) (s : S) : Option (List D × S) := (f s).bind fun r => (seqD r.1).map fun ds => (ds, r.2)
theorem walk_l {G : Hp} {a : Addr} {vs : List V} {ds : List D} (h : SqL K G a vs) (r : RepL K G ds vs) : Walk K G (Itl K a) ds := fun B G' H' σ' s' a1 R' => by
  have q : SqL K H' a vs := R'.sub.seq (a1.seq h)
  refine ⟨⟨vs, q, by rw [r.length]; exact Nat.le_refl _⟩, fun i d hd => ?_⟩
  obtain ⟨v, hv, rv⟩ := r.getD hd
  refine ⟨⟨vs, v, q, hv⟩, fun x H'' y => ?_⟩
  obtain ⟨e, y⟩ := y
  subst e
  have := y vs q
  rw [hv] at this; cases this
  exact ⟨G', Same.refl _, R', rv.mono a1, fun p h1 h2 => absurd h1 h2⟩
theorem walk_t {G : Hp} {a : Addr} {vs : List V} {ds : List D} (h : SqT K G a vs) (r : RepL K G ds vs) : Walk K G (Itt K a) ds := fun B G' H' σ' s' a1 R' => by
  have q : SqT K H' a vs := same_t R'.sub (same_t a1 h)
  refine ⟨⟨vs, q, by rw [r.length]; exact Nat.le_refl _⟩, fun i d hd => ?_⟩
  obtain ⟨v, hv, rv⟩ := r.getD hd
  refine ⟨⟨vs, v, q, hv⟩, fun x H'' y => ?_⟩
  obtain ⟨e, y⟩ := y
  subst e
  have := y vs q
  rw [hv] at this; cases this
  exact ⟨G', Same.refl _, R', rv.mono a1, fun p h1 h2 => absurd h1 h2⟩
def iSeq (K : PySem.W.Frag) (tl : TE) : TI := fun σ H R => tl σ H fun x H1 => ∃ a, x = .ref a ∧ (((∃ xs, SqL K H1 a xs) ∧ R (Itl K a) H1) ∨ ((∃ xs, SqT K H1 a xs) ∧ R (Itt K a) H1))
theorem pi_seq {l : Expr} {tl : TE} (hl : PE X l tl) : PI X tg l (iSeq X.K tl) := by
  refine ⟨fun pins s σ H R I h => ?_⟩
  refine thn (hl.run pins s σ H _ I h) fun v s1 ⟨x, H1, I1, r1, q1⟩ => ?_
  obtain ⟨a, e, q⟩ := q1
  subst e
  cases r1
  rcases q with ⟨⟨xs, hq⟩, q⟩ | ⟨⟨xs, hq⟩, q⟩
  · obtain ⟨its, rv, p, hz⟩ := I1.list hq
    refine PySem.wpAny_pyIter_list p.isList ?_
    refine ⟨s1.heap.objs.size, [s1.heap.objs.size], _, _, H1, rfl, I1.kept (t' := s1.toks) fun b o e => Heap.get?_push_of_some _ e, turn_list a _, ⟨_, Heap.get?_push_size _ rfl, rfl, rfl⟩, fun b hb => ?_, q⟩
    have e : b = s1.heap.objs.size := by simpa using hb
    subst e
    exact I1.fpOk (Nat.le_refl _) (I1.hok.fresh (Nat.le_refl _))
  · obtain ⟨its, rv, p, hz⟩ := I1.tuple hq
    refine PySem.wpAny_pyIter_tuple (show s1.heap.IsTuple a its.toArray from p) ?_
    refine ⟨s1.heap.objs.size, [s1.heap.objs.size], _, _, H1, rfl, I1.kept (t' := s1.toks) fun b o e => Heap.get?_push_of_some _ e, turn_tuple a _, ⟨_, Heap.get?_push_size _ rfl, rfl, rfl⟩, fun b hb => ?_, q⟩
    have e : b = s1.heap.objs.size := by simpa using hb
    subst e
    exact I1.fpOk (Nat.le_refl _) (I1.hok.fresh (Nat.le_refl _))
theorem iv_seq {f : S → Option (D × S)} (h : EV X e f) : IV X tg e (itS f) := fun B =>
  PI.weak (pi_seq (h B)) fun σ H R ⟨G, s, ds, s', R0, hf, k⟩ => by
    unfold itS at hf
    cases q : f s with
    | none => rw [q] at hf; cases hf
    | some r =>
      rw [q] at hf
      obtain ⟨d, s1⟩ := r
      simp only [Option.bind_some] at hf
      refine ⟨G, s, d, s1, R0, q, fun v G' H' a R' r' => ?_⟩
      cases r' with
      | tup h1 h2 => cases hf; exact ⟨_, rfl, .inr ⟨⟨_, same_t R'.sub h1⟩, k _ G' H' a R' (walk_t h1 h2)⟩⟩
      | lst h1 h2 => cases hf; exact ⟨_, rfl, .inl ⟨⟨_, SqL.of (R'.sub _ _ h1)⟩, k _ G' H' a R' (walk_l (SqL.of h1) h2)⟩⟩
      | fl h1 h2 => cases hf; exact ⟨_, rfl, .inl ⟨⟨_, R'.sub.seq h1⟩, k _ G' H' a R' (walk_l h1 h2)⟩⟩
      | _ => cases hf
/-- lo, lo + 1, .. -/
def rng (lo : Int) (n : Nat) : List D := (List.range n).map fun i => .int (lo + (i : Nat))
theorem rng_len (lo : Int) (n : Nat) : (rng lo n).length = n := by simp [rng]
theorem rng_get {lo : Int} {n i : Nat} {d : D} (h : (rng lo n)[i]? = some d) : i < n ∧ d = .int (lo + (i : Nat)) := by
  unfold rng at h
  rw [List.getElem?_map] at h
  cases q : (List.range n)[i]? with
  | none => rw [q] at h; cases h
  | some j =>
    rw [q] at h; cases h
    obtain ⟨h1, h2⟩ := List.getElem?_eq_some_iff.mp q
    simp only [List.length_range] at h1
    simp only [List.getElem_range] at h2
    subst h2
    exact ⟨h1, rfl⟩
theorem walk_r (G : Hp) (lo : Int) (n : Nat) : Walk K G (Itr lo n) (rng lo n) := fun B G' H' σ' s' a1 R' => by
  refine ⟨by rw [rng_len]; exact Nat.le_refl _, fun i d hd => ?_⟩
  obtain ⟨h1, rfl⟩ := rng_get hd
  refine ⟨h1, fun x H'' y => ?_⟩
  obtain ⟨e, y⟩ := y
  subst e; subst y
  exact ⟨G', Same.refl _, R', .int _, fun p h1 h2 => absurd h1 h2⟩
def r62 (i : Int) : Bool := decide (i.natAbs < 2 ^ 62)
theorem r62_ok {i : Int} (h : r62 i = true) : -(2 ^ 62) ≤ i ∧ i < 2 ^ 62 := by
  unfold r62 at h
  have := of_decide_eq_true h
  omega
def itR1 (t : S → Option (List D × S)) (s : S) : Option (List D × S) := (t s).bind fun r => match r.1 with | [.int j] => if r62 j = true then some (rng 0 j.toNat, r.2) else none | _ => none
def itR2 (t : S → Option (List D × S)) (s : S) : Option (List D × S) := (t s).bind fun r => match r.1 with | [.int i, .int j] => if (r62 i && r62 j) = true then some (rng i (j - i).toNat, r.2) else none | _ => none
theorem iv_range1 {a : Expr} {t : S → Option (List D × S)} (ha : AV X [a] t) (hm : X.mg "range" = none) (hg : Gl X "range" := by rfl) (hs : starEach [a] X.env = [(false, eval a X.env)] := by rfl) : IV X tg (.Call (.Name "range" p) [a] [] pos) (itR1 t) := fun B =>
  PI.weak (pi_range1 hg hm (ha B) hs) fun σ H R ⟨G, s, ds, s', R0, hf, k⟩ => by
    unfold itR1 at hf
    cases q : t s with
    | none => rw [q] at hf; cases hf
    | some r =>
      rw [q] at hf
      obtain ⟨es, s1⟩ := r
      simp only [Option.bind_some] at hf
      split at hf
      · rename_i j
        split at hf
        · rename_i hz
          cases hf
          refine ⟨G, s, _, s', R0, q, fun vs G' H' a R' r' => ?_⟩
          cases r' with | cons r1 r2 => cases r1; cases r2; exact ⟨j, rfl, (r62_ok hz).1, (r62_ok hz).2, k _ G' H' a R' (walk_r G' 0 j.toNat)⟩
        · cases hf
      · cases hf
theorem iv_range2 {a b : Expr} {t : S → Option (List D × S)} (ha : AV X [a, b] t) (hm : X.mg "range" = none) (hg : Gl X "range" := by rfl) (hs : starEach [a, b] X.env = [(false, eval a X.env), (false, eval b X.env)] := by rfl) (hs2 : starEach [b] X.env = [(false, eval b X.env)] := by rfl) :
    IV X tg (.Call (.Name "range" p) [a, b] [] pos) (itR2 t) := fun B =>
  PI.weak (pi_range2 hg hm (ha B) hs hs2) fun σ H R ⟨G, s, ds, s', R0, hf, k⟩ => by
    unfold itR2 at hf
    cases q : t s with
    | none => rw [q] at hf; cases hf
    | some r =>
      rw [q] at hf
      obtain ⟨es, s1⟩ := r
      simp only [Option.bind_some] at hf
      split at hf
      · rename_i i j
        split at hf
        · rename_i hz
          rw [Bool.and_eq_true] at hz
          cases hf
          refine ⟨G, s, _, s', R0, q, fun vs G' H' a R' r' => ?_⟩
          cases r' with | cons r1 r2 => cases r1; cases r2 with | cons r3 r4 => cases r3; cases r4; exact ⟨i, j, rfl, ⟨(r62_ok hz.1).1, (r62_ok hz.1).2, (r62_ok hz.2).1, (r62_ok hz.2).2⟩, k _ G' H' a R' (walk_r G' i (j - i).toNat)⟩
        · cases hf
      · cases hf
end
end DL
namespace DL
open PySem L2
/-! ### comprehensions -/
def wipeL (e : List Sl) : List Nat → List Sl
  | [] => e
  | i :: vs => (wipeL e vs).set i .no
def keepS : Option Sl → Sl
  | some (.v d) => .v d
  | _ => .no
def backL (e0 e : List Sl) : List Nat → List Sl
  | [] => e
  | i :: vs => (backL e0 e vs).set i (keepS e0[i]?)
def wipeS (vs : List Nat) (s : S) : S := ⟨wipeL s.e vs, s.m⟩
def backS (vs : List Nat) (s0 s : S) : S := ⟨backL s0.e s.e vs, s.m⟩
theorem wipeL_len (e : List Sl) : ∀ vs, (wipeL e vs).length = e.length
  | [] => rfl
  | i :: vs => by unfold wipeL; rw [List.length_set, wipeL_len e vs]
theorem backL_len (e0 e : List Sl) : ∀ vs, (backL e0 e vs).length = e.length
  | [] => rfl
  | i :: vs => by unfold backL; rw [List.length_set, backL_len e0 e vs]
theorem wipeL_get (e : List Sl) (j : Nat) : ∀ vs : List Nat, (wipeL e vs)[j]? = if j ∈ vs then (if j < e.length then some .no else none) else e[j]?
  | [] => by simp [wipeL]
  | i :: vs => by
    unfold wipeL
    by_cases h : i = j
    · subst h
      by_cases hl : i < e.length
      · rw [List.getElem?_set_self (by rw [wipeL_len]; exact hl)]; simp [hl]
      · rw [List.getElem?_eq_none (by rw [List.length_set, wipeL_len]; omega)]; simp [hl]
    · rw [List.getElem?_set_ne h, wipeL_get e j vs]
      have : (j ∈ i :: vs) ↔ j ∈ vs := by simp [Ne.symm h]
      simp only [this]
theorem backL_get (e0 e : List Sl) (j : Nat) : ∀ vs : List Nat, (backL e0 e vs)[j]? = if j ∈ vs then (if j < e.length then some (keepS e0[j]?) else none) else e[j]?
  | [] => by simp [backL]
  | i :: vs => by
    unfold backL
    by_cases h : i = j
    · subst h
      by_cases hl : i < e.length
      · rw [List.getElem?_set_self (by rw [backL_len]; exact hl)]; simp [hl]
      · rw [List.getElem?_eq_none (by rw [List.length_set, backL_len]; omega)]; simp [hl]
    · rw [List.getElem?_set_ne h, backL_get e0 e j vs]
      have : (j ∈ i :: vs) ↔ j ∈ vs := by simp [Ne.symm h]
      simp only [this]
theorem wipe_get (σ : L2.St) (j : Nat) : ∀ vs : List Nat, (wipe σ vs)[j]? = if j ∈ vs then (if j < σ.length then some none else none) else σ[j]?
  | [] => by simp [wipe]
  | i :: vs => by
    unfold wipe
    by_cases h : i = j
    · subst h
      by_cases hl : i < σ.length
      · rw [List.getElem?_set_self (by rw [wipe_length]; exact hl)]; simp [hl]
      · rw [List.getElem?_eq_none (by rw [List.length_set, wipe_length]; omega)]; simp [hl]
    · rw [List.getElem?_set_ne h, wipe_get σ j vs]
      have : (j ∈ i :: vs) ↔ j ∈ vs := by simp [Ne.symm h]
      simp only [this]
theorem wipe_set {σ : L2.St} {vs : List Nat} {i : Nat} {x : Option V} (h : i ∈ vs) : wipe ((wipe σ vs).set i x) vs = wipe σ vs := by
  apply List.ext_getElem?
  intro j
  rw [wipe_get, wipe_get, List.length_set, wipe_length]
  by_cases hj : j ∈ vs
  · simp only [hj, if_true]
  · simp only [hj, if_false]
    rw [List.getElem?_set_ne (fun e => hj (by rw [← e]; exact h)), wipe_get]
    simp only [hj, if_false]
theorem wipe_set2 {σ : L2.St} {vs : List Nat} {i j : Nat} {x y : Option V} (h : i ∈ vs) (h2 : j ∈ vs) : wipe (((wipe σ vs).set i x).set j y) vs = wipe σ vs := by
  apply List.ext_getElem?
  intro k
  rw [wipe_get, wipe_get, List.length_set, List.length_set, wipe_length]
  by_cases hj : k ∈ vs
  · simp only [hj, if_true]
  · simp only [hj, if_false]
    rw [List.getElem?_set_ne (fun e => hj (by rw [← e]; exact h2)), List.getElem?_set_ne (fun e => hj (by rw [← e]; exact h)), wipe_get]
    simp only [hj, if_false]
section
variable {K : PySem.W.Frag} {B : Bs} {G G' H H' : Hp} {σ : L2.St} {s s' : S} {p : Addr} {o : HO}
theorem Rp.wipe (R : Rp K B G H σ s) (vs : List Nat) : Rp K B G H (wipe σ vs) (wipeS vs s) := by
  have tr : ∀ {j : Nat} {ds : List D}, (wipeL s.e vs)[j]? = some (.own ds) → j ∉ vs ∧ s.e[j]? = some (.own ds) := fun {j ds} q => by
    rw [wipeL_get] at q
    by_cases hj : j ∈ vs
    · rw [if_pos hj] at q; split at q <;> cases q
    · rw [if_neg hj] at q; exact ⟨hj, q⟩
  refine ⟨R.sub, R.base, R.g0, R.new, R.frame, by rw [wipe_length, R.len]; exact (wipeL_len _ _).symm, fun j sl q => ?_, fun i j b ds es hn h1 h2 h3 h4 => ?_, R.iok, R.iof⟩
  · have q' : (wipeL s.e vs)[j]? = some sl := q
    rw [wipeL_get] at q'
    by_cases hj : j ∈ vs
    · rw [if_pos hj] at q'
      split at q'
      · rename_i hl
        cases q'
        exact ⟨none, by rw [wipe_get, if_pos hj, if_pos (by rw [R.len]; exact hl)], trivial⟩
      · cases q'
    · rw [if_neg hj] at q'
      obtain ⟨ov, e1, e2⟩ := R.slots j sl q'
      exact ⟨ov, by rw [wipe_get, if_neg hj]; exact e1, e2⟩
  · obtain ⟨n1, h1⟩ := tr h1
    obtain ⟨n2, h2⟩ := tr h2
    rw [wipe_get, if_neg n1] at h3
    rw [wipe_get, if_neg n2] at h4
    exact R.sep i j b ds es hn h1 h2 h3 h4
/-- behind a comprehension the block's own names are again what they were -/
theorem Rp.back {vs : List Nat} {s0 : S} {H0 : Hp} {G0 : Hp} (R0 : Rp K B G0 H0 σ s0) (a : Same G0 G) (R : Rp K B G H (L2.wipe σ vs) s) : Rp K B G H σ (backS vs s0 s) := by
  have hlen : s.e.length = σ.length := by rw [← R.len, wipe_length]
  have tr : ∀ {j : Nat} {ds : List D}, (backL s0.e s.e vs)[j]? = some (.own ds) → j ∉ vs ∧ s.e[j]? = some (.own ds) := fun {j ds} q => by
    rw [backL_get] at q
    by_cases hj : j ∈ vs
    · rw [if_pos hj] at q
      split at q
      · have q1 : keepS s0.e[j]? = .own ds := Option.some.inj q
        unfold keepS at q1
        split at q1 <;> cases q1
      · cases q
    · rw [if_neg hj] at q; exact ⟨hj, q⟩
  refine ⟨R.sub, R.base, R.g0, R.new, R.frame, by rw [← hlen]; exact (backL_len _ _ _).symm, fun j sl q => ?_, fun i j b ds es hn h1 h2 h3 h4 => ?_, R.iok, R.iof⟩
  · have q' : (backL s0.e s.e vs)[j]? = some sl := q
    rw [backL_get] at q'
    by_cases hj : j ∈ vs
    · rw [if_pos hj] at q'
      split at q'
      · rename_i hl
        have hs : j < σ.length := by omega
        cases q2 : s0.e[j]? with
        | none =>
          rw [q2] at q'; cases q'
          exact ⟨σ[j], List.getElem?_eq_getElem hs, trivial⟩
        | some sl0 =>
          rw [q2] at q'
          obtain ⟨ov, e1, e2⟩ := R0.slots j sl0 q2
          cases sl0 with
          | v d =>
            cases q'
            obtain ⟨v, e3, r⟩ := e2
            exact ⟨ov, e1, v, e3, r.mono a⟩
          | no => cases q'; exact ⟨ov, e1, trivial⟩
          | own ds => cases q'; exact ⟨ov, e1, trivial⟩
          | io => cases q'; exact ⟨ov, e1, trivial⟩
      · cases q'
    · rw [if_neg hj] at q'
      obtain ⟨ov, e1, e2⟩ := R.slots j sl q'
      rw [wipe_get, if_neg hj] at e1
      exact ⟨ov, e1, e2⟩
  · obtain ⟨n1, h1⟩ := tr h1
    obtain ⟨n2, h2⟩ := tr h2
    exact R.sep i j b ds es hn h1 h2 (by rw [wipe_get, if_neg n1]; exact h3) (by rw [wipe_get, if_neg n2]; exact h4)
def Bs.add (B : Bs) (p : Addr) (o : HO) : Bs := ⟨upd B.F p o, B.G0, B.io⟩
theorem Rp.addF (R : Rp K B G H σ s) (h : H p = some o) (hg : G p = none) (hf : B.F p = none) (hs : ∀ (i : Nat) (es : List D), s.e[i]? = some (.own es) → σ[i]? ≠ some (some (.ref p))) : Rp K (B.add p o) G H σ s := by
  refine ⟨R.sub, R.base, fun b u q => ?_, fun b u q => ?_, fun b u q n => ?_, R.len, fun j sl q => ?_, R.sep, R.iok, fun b q => ?_⟩
  · show upd B.F p o b = some u
    rw [upd_ne (fun e => by subst e; rw [R.g0 b u q] at hf; cases hf)]
    exact R.g0 b u q
  · rcases R.new b u q with z | z
    · exact .inl z
    · refine .inr ?_
      show upd B.F p o b = none
      rw [upd_ne (fun e => by subst e; rw [hg] at q; cases q)]
      exact z
  · have q' : upd B.F p o b = some u := q
    by_cases e : b = p
    · subst e; rw [upd_same] at q'; rw [h]; exact q'
    · rw [upd_ne e] at q'; exact R.frame b u q' n
  · obtain ⟨ov, e1, e2⟩ := R.slots j sl q
    refine ⟨ov, e1, ?_⟩
    cases sl with
    | own ds =>
      obtain ⟨b, ws, e, c1, c2, c3, c4⟩ := e2
      refine ⟨b, ws, e, c1, c2, c3, ?_⟩
      show upd B.F p o b = none
      rw [upd_ne (fun z => by subst z; rw [e] at e1; exact hs j ds q e1)]
      exact c4
    | no => trivial
    | v d => exact e2
    | io => exact e2
  · obtain ⟨u, z⟩ := R.iof b q
    exact ⟨u, by show upd B.F p o b = some u; rw [upd_ne (fun e => by subst e; rw [hf] at z; cases z)]; exact z⟩
theorem Rp.delF (R : Rp K (B.add p o) G H σ s) (hf : B.F p = none) (h0 : B.G0 p = none) (hio : B.io ≠ some p) (hg0 : Same B.G0 B.F) :
    Rp K B G H σ s ∧ H p = some o ∧ G p = none ∧ ∀ (i : Nat) (es : List D), s.e[i]? = some (.own es) → σ[i]? ≠ some (some (.ref p)) := by
  have hp : (B.add p o).F p = some o := upd_same
  have ne : ∀ b, (B.add p o).F b = none → B.F b = none := fun b q => by
    have q' : upd B.F p o b = none := q
    by_cases e : b = p
    · subst e; exact hf
    · rw [upd_ne e] at q'; exact q'
  refine ⟨⟨R.sub, R.base, hg0, fun b u q => ?_, fun b u q n => ?_, R.len, fun j sl q => ?_, R.sep, R.iok, fun b q => ?_⟩, R.frame p o hp hio, ?_, fun i es q z => ?_⟩
  · rcases R.new b u q with z | z
    · exact .inl z
    · exact .inr (ne b z)
  · refine R.frame b u ?_ n
    show upd B.F p o b = some u
    rw [upd_ne (fun e => by subst e; rw [hf] at q; cases q)]
    exact q
  · obtain ⟨ov, e1, e2⟩ := R.slots j sl q
    refine ⟨ov, e1, ?_⟩
    cases sl with
    | own ds =>
      obtain ⟨b, ws, e, c1, c2, c3, c4⟩ := e2
      exact ⟨b, ws, e, c1, c2, c3, ne b c4⟩
    | no => trivial
    | v d => exact e2
    | io => exact e2
  · obtain ⟨u, z⟩ := R.iof b q
    have z' : upd B.F p o b = some u := z
    rw [upd_ne (fun e => by subst e; exact hio q)] at z'
    exact ⟨u, z'⟩
  · cases q : G p with
    | none => rfl
    | some u =>
      rcases R.new p u q with z | z
      · have z' : B.G0 p = some u := z
        rw [h0] at z'; cases z'
      · rw [hp] at z; cases z
  · obtain ⟨b, ws, e1, _, _, _, c4⟩ := R.ownAt q
    rw [e1] at z; cases z
    rw [hp] at c4; cases c4
end
def yes (s : S) : Option (Bool × S) := some (true, s)
def lcF (vs : List Nat) (t : D → S → Option S) (u : S → Option (Bool × S)) (el : S → Option (D × S)) : List D → List D → S → Option (List D × S)
  | [], acc, s => some (acc, s)
  | d :: ds, acc, s => (t d s).bind fun s1 => (u s1).bind fun r => match r.1 with
    | true => (el r.2).bind fun q => if szOk (acc.length + 1) = true then lcF vs t u el ds (acc ++ [q.1]) (wipeS vs q.2) else none
    | false => lcF vs t u el ds acc (wipeS vs r.2)
def lcS (vs : List Nat) (fi : S → Option (List D × S)) (t : D → S → Option S) (u : S → Option (Bool × S)) (el : S → Option (D × S)) (s : S) : Option (List D × S) :=
  (fi s).bind fun r => (lcF vs t u el r.1 [] (wipeS vs r.2)).map fun q => (q.1, backS vs r.2 q.2)
/-- a target whose names are the block's own: what it stores -/
def TgW (K : PySem.W.Frag) (vs : List Nat) (g : TG) (t : D → S → Option S) : Prop := ∀ (B : Bs) (G H : Hp) (σ : L2.St) (s s' : S) (d : D) (v : V) (Q : L2.St → Hp → Prop), Rp K B G H (wipe σ vs) s → Rep K G d v → t d s = some s' →
  (∀ σ', wipe σ' vs = wipe σ vs → Rp K B G H σ' s' → Q σ' H) → g v (wipe σ vs) H Q
theorem tgw_name {K : PySem.W.Frag} {vs : List Nat} {i : Nat} (h : i ∈ vs) : TgW K vs (gName i) (tgN i) := fun B G H σ s s' d v Q R r ht k => by
  cases ht
  exact k _ (wipe_set h) (R.setv r)
theorem tgw_pair {K : PySem.W.Frag} {vs : List Nat} {i j : Nat} (h : i ∈ vs) (h2 : j ∈ vs) : TgW K vs (gTup K 2 (gCons (gName i) (gCons (gName j) gNil))) (tgT (tgsC (tgN i) (tgsC (tgN j) tgs0))) := fun B G H σ s s' d v Q R r ht k => by
  cases r with
  | @tup a vs ds h1 rl =>
    cases rl with
    | nil => cases ht
    | cons r1 rl =>
      cases rl with
      | nil => cases ht
      | cons r2 rl =>
        cases rl with
        | cons _ _ => cases ht
        | nil =>
          cases ht
          exact ⟨a, _, rfl, same_t R.sub h1, rfl, _, _, rfl, _, _, rfl, rfl, k _ (wipe_set2 h h2) ((R.setv r1).setv r2)⟩
  | _ => cases ht
section
variable {X : Cx} {tg elt iter : Expr} {ifs : List Expr} {scope : Scope} {own : List (Str × Nat)} {pos : Pos} {fi : S → Option (List D × S)} {t : D → S → Option S} {u : S → Option (Bool × S)} {el : S → Option (D × S)} {g : TG}
theorem lc_ok {K : PySem.W.Frag} {B : Bs} {wi : TI} {vs0 : List Nat} (hgw : TgW K vs0 g t) (hwi : ∀ σ H R, Ti K B fi σ H R → wi σ H R) (σ : L2.St) (H : Hp) (Q : VK) (hh : To K B (lcS vs0 fi t u el) σ H Q) :
    tLc wi g (fun σ H Q => ∃ B, Tt K B u σ H Q) (fun σ H Q => ∃ B, Tv K B el σ H Q) vs0 σ H Q := by
    obtain ⟨G, s, ds', s', R, h, k⟩ := hh
    unfold lcS at h
    cases q : fi s with
    | none => rw [q] at h; cases h
    | some r =>
      rw [q] at h
      obtain ⟨ds, s1⟩ := r
      simp only [Option.bind_some] at h
      cases q2 : lcF vs0 t u el ds [] (wipeS vs0 s1) with
      | none => rw [q2] at h; cases h
      | some r2 =>
        rw [q2] at h
        obtain ⟨ys, s2⟩ := r2
        simp only [Option.map_some, Option.some.injEq, Prod.mk.injEq] at h
        obtain ⟨rfl, rfl⟩ := h
        refine hwi σ H _ ⟨G, s, ds, s1, R, q, fun J G0 H0 a0 R0 wk => fun Dd hD => ?_⟩
        have f0 : B.F Dd = none := R0.fF hD
        have g0 : B.G0 Dd = none := R0.g0.free f0
        have io0 : B.io ≠ some Dd := R0.ioNe f0
        obtain ⟨R0', F0⟩ := fresh_new (vs := []) R0 hD
        refine ⟨fun i m H' => m = ds.length - i ∧ i ≤ ds.length ∧ ∃ G' s' acc vacc, Same G0 G' ∧ Rp K B G' H' (wipe σ vs0) s' ∧ Fresh B G' H' (wipe σ vs0) s' Dd vacc ∧ RepL K G' acc vacc ∧ lcF vs0 t u el (ds.drop i) acc s' = some (ys, s2),
          ⟨_, rfl, Nat.zero_le _, G0, _, [], [], Same.refl _, R0'.wipe _, ⟨F0.1, F0.2.1, F0.2.2.1, fun i es e z => ?_⟩, .nil, q2⟩, ?_⟩
        · have e' : (wipeL s1.e vs0)[i]? = some (.own es) := e
          rw [wipeL_get] at e'
          by_cases hj : i ∈ vs0
          · rw [if_pos hj] at e'; split at e' <;> cases e'
          · rw [if_neg hj] at e'
            rw [wipe_get, if_neg hj] at z
            exact F0.2.2.2 i es e' z
        · rintro i m H1 ⟨rfl, hi, G1, s3, acc, vacc, a1, R1, F1, ra, h1⟩
          by_cases hl : i < ds.length
          · refine .inr ?_
            have hd : ds[i]? = some ds[i] := List.getElem?_eq_getElem hl
            have R1' := R1.addF F1.1 F1.2.1 F1.2.2.1 F1.2.2.2
            obtain ⟨_, wgo⟩ := wk (B.add Dd (.lst vacc)) G1 H1 _ s3 a1 R1'
            obtain ⟨go, yld⟩ := wgo i _ hd
            rw [List.drop_eq_getElem_cons hl] at h1
            unfold lcF at h1
            refine ⟨go, fun H' => i + 1 ≤ ds.length ∧ ∃ G' s' acc vacc, Same G0 G' ∧ Rp K B G' H' (wipe σ vs0) s' ∧ Fresh B G' H' (wipe σ vs0) s' Dd vacc ∧ RepL K G' acc vacc ∧ lcF vs0 t u el (ds.drop (i + 1)) acc s' = some (ys, s2),
              fun H' w => ⟨ds.length - (i + 1), by omega, rfl, w.1, w.2⟩, fun x H2 y => ?_⟩
            obtain ⟨G2, a2, R2, r2, _⟩ := yld x H2 y
            cases q3 : t ds[i] s3 with
            | none => rw [q3] at h1; cases h1
            | some s4 =>
              rw [q3] at h1
              simp only [Option.bind_some] at h1
              refine hgw _ G2 H2 σ s3 s4 ds[i] x _ R2 r2 q3 fun σ4 hw R4 => ⟨hw, B.add Dd (.lst vacc), ?_⟩
              -- the block ends where the wiped slots are the same
              have fin : ∀ {G5 H5 : Hp} {s5 : S}, Rp K (B.add Dd (.lst vacc)) G5 H5 σ4 s5 → Rp K B G5 H5 (wipe σ vs0) (wipeS vs0 s5) ∧ Fresh B G5 H5 (wipe σ vs0) (wipeS vs0 s5) Dd vacc := fun {G5 H5 s5} R5 => by
                have R6 := R5.wipe vs0
                rw [hw] at R6
                obtain ⟨R7, c1, c2, c3⟩ := R6.delF f0 g0 io0 R0.g0
                exact ⟨R7, c1, c2, f0, c3⟩
              cases q4 : u s4 with
              | none => rw [q4] at h1; cases h1
              | some r4 =>
                rw [q4] at h1
                obtain ⟨b, s5⟩ := r4
                refine ⟨G2, s4, b, s5, R4, q4, fun G5 H5 a5 R5 => ?_⟩
                cases b with
                | false =>
                  rw [if_neg Bool.false_ne_true]
                  obtain ⟨R7, F7⟩ := fin R5
                  exact ⟨hl, G5, _, acc, vacc, (a1.trans a2).trans a5, R7, F7, ra.mono (a2.trans a5), h1⟩
                | true =>
                  rw [if_pos rfl]
                  simp only [Option.bind_some] at h1
                  cases q5 : el s5 with
                  | none => rw [q5] at h1; cases h1
                  | some r5 =>
                    rw [q5] at h1
                    obtain ⟨d5, s6⟩ := r5
                    simp only [Option.bind_some] at h1
                    split at h1
                    · rename_i hz
                      refine ⟨B.add Dd (.lst vacc), G5, s5, d5, s6, R5, q5, fun v6 G6 H6 a6 R6 r6 => ?_⟩
                      obtain ⟨R7, F7⟩ := fin R6
                      refine ⟨vacc, F7.1, ?_, hl, G6, _, acc ++ [d5], vacc ++ [v6], ((a1.trans a2).trans a5).trans a6, ?_, ⟨upd_same, F7.2.1, f0, F7.2.2.2⟩, (ra.mono ((a2.trans a5).trans a6)).app (.cons r6 .nil), h1⟩
                      · have := szOk_le hz
                        rw [← ra.length]; omega
                      · -- the list at Dd grows: nothing else leans on it
                        have ne : ∀ (b : Addr) (o : HO), G6 b = some o → b ≠ Dd := fun b o e z => by subst z; rw [F7.2.1] at e; cases e
                        refine ⟨fun b o e => by rw [upd_ne (ne b o e)]; exact R7.sub b o e, R7.base, R7.g0, R7.new, fun b o e n => by rw [upd_ne (fun z => by subst z; rw [f0] at e; cases e)]; exact R7.frame b o e n, R7.len, fun j sl e => ?_, R7.sep, fun b e => ?_, R7.iof⟩
                        · obtain ⟨ov, e1, e2⟩ := R7.slots j sl e
                          refine ⟨ov, e1, ?_⟩
                          cases sl with
                          | own fs =>
                            obtain ⟨b, ws, e3, c1, c2, c3, c4⟩ := e2
                            refine ⟨b, ws, e3, ?_, c2, c3, c4⟩
                            rw [upd_ne (fun z => by subst z; rw [e3] at e1; exact F7.2.2.2 j fs e e1)]
                            exact c1
                          | no => trivial
                          | v d => exact e2
                          | io => exact e2
                        · obtain ⟨ws, c1, c2, c3⟩ := R7.iok b e
                          exact ⟨ws, by rw [upd_ne (fun z => by subst z; exact io0 e)]; exact c1, c2, c3⟩
                    · cases h1
          · have e : i = ds.length := by omega
            subst e
            obtain ⟨wstop, _⟩ := wk B G1 H1 _ s3 a1 R1
            rw [List.drop_length] at h1
            unfold lcF at h1
            simp only [Option.some.injEq, Prod.mk.injEq] at h1
            obtain ⟨rfl, rfl⟩ := h1
            have R9 := Rp.back (R0.alloc (o := .lst []) hD) a1 R1
            refine .inl ⟨wstop, k Dd vacc G1 H1 (a0.trans a1) R9 ⟨F1.1, F1.2.1, f0, fun j es e z => ?_⟩ ra⟩
            have e' : (backL s1.e s3.e vs0)[j]? = some (.own es) := e
            rw [backL_get] at e'
            by_cases hj : j ∈ vs0
            · rw [if_pos hj] at e'
              split at e'
              · have q1 : keepS s1.e[j]? = .own es := Option.some.inj e'
                unfold keepS at q1
                split at q1 <;> cases q1
              · cases e'
            · rw [if_neg hj] at e'
              exact F1.2.2.2 j es e' (by rw [wipe_get, if_neg hj]; exact z)
section
variable {py spos : Pos} {y : Str} {i : Nat}
theorem eo_lc (hc : X.calm = true) (hN : X.N.Nodup) (hi : IV X tg iter fi) (ok : BlkOk X.N X.env.scope scope own)
    (hg : ∀ (s : Shared) (H : Hp) (C : Addr) (cl : List (Str × Addr)) (fp : List Addr), PG (X.blk s H scope (compEnvC scope cl C X.env) fp) tg g) (hgw : TgW X.K (own.map (·.2)) g t)
    (ht : ∀ (s : Shared) (H : Hp) (C : Addr) (cl : List (Str × Addr)) (fp : List Addr) (B : Bs), PTs (X.blk s H scope (compEnvC scope cl C X.env) fp) ifs (Tt X.K B u))
    (he : ∀ (s : Shared) (H : Hp) (C : Addr) (cl : List (Str × Addr)) (fp : List Addr), EV (X.blk s H scope (compEnvC scope cl C X.env) fp) elt el) (hs : ∀ x, foldedSetIterable iter X.env x = pure x := by intro _; rfl) :
    EO X (.ListComp elt [⟨tg, iter, ifs, 0⟩] scope pos) (lcS (own.map (·.2)) fi t u el) := fun B =>
  PE.weak (pe_lc (tt := fun σ H Q => ∃ B, Tt X.K B u σ H Q) (te := fun σ H Q => ∃ B, Tv X.K B el σ H Q) hc hN (hi B) ok hg
    (fun s H C cl fp => ⟨fun pins s' σ H' Q I ⟨B', h⟩ => (ht s H C cl fp B').run pins s' σ H' Q I h⟩)
    (fun s H C cl fp => ⟨fun pins s' σ H' Q I ⟨B', h⟩ => (he s H C cl fp B').run pins s' σ H' Q I h⟩) hs) (lc_ok hgw fun _ _ _ h => h)
/-- y = [..] on one line -/
theorem sv_setLcO (i : Nat) (hc : X.calm = true) (hN : X.N.Nodup) (hi : IV X tg iter fi) (ok : BlkOk X.N X.env.scope scope own)
    (hg : ∀ (s : Shared) (H : Hp) (C : Addr) (cl : List (Str × Addr)) (fp : List Addr), PG (X.blk s H scope (compEnvC scope cl C X.env) fp) tg g) (hgw : TgW X.K (own.map (·.2)) g t)
    (ht : ∀ (s : Shared) (H : Hp) (C : Addr) (cl : List (Str × Addr)) (fp : List Addr) (B : Bs), PTs (X.blk s H scope (compEnvC scope cl C X.env) fp) ifs (Tt X.K B u))
    (he : ∀ (s : Shared) (H : Hp) (C : Addr) (cl : List (Str × Addr)) (fp : List Addr), EV (X.blk s H scope (compEnvC scope cl C X.env) fp) elt el)
    (hsw : swapsWith (.ListComp elt [⟨tg, iter, ifs, 0⟩] scope pos) (some (.Name y py)) spos.line X.env = pure true) (hy : X.N[i]? = some y := by rfl) (hyl : X.env.scope.names.lookup y = some .local := by rfl) (hs : ∀ x, foldedSetIterable iter X.env x = pure x := by intro _; rfl) :
    SV X (.Assign [.Name y py] (.ListComp elt [⟨tg, iter, ifs, 0⟩] scope pos) spos) (seto i (lcS (own.map (·.2)) fi t u el)) := fun B =>
  PS.weak (ps_setLc (tt := fun σ H Q => ∃ B, Tt X.K B u σ H Q) (te := fun σ H Q => ∃ B, Tv X.K B el σ H Q) hc hN hy hyl hsw (hi B) ok hg
    (fun s H C cl fp => ⟨fun pins s' σ H' Q I ⟨B', h⟩ => (ht s H C cl fp B').run pins s' σ H' Q I h⟩)
    (fun s H C cl fp => ⟨fun pins s' σ H' Q I ⟨B', h⟩ => (he s H C cl fp B').run pins s' σ H' Q I h⟩) hs) fun Dn σ H ⟨G, s, o, R, h, k⟩ => by
    unfold seto at h
    cases q : lcS (own.map (·.2)) fi t u el s with
    | none => rw [q] at h; cases h
    | some r =>
      rw [q] at h; cases h
      exact lc_ok hgw (fun _ _ _ h => h) σ H _ ⟨G, s, r.1, r.2, R, q, fun p vs G' H' a R' F r' => k _ G' H' a (R'.setO F.1 r' F.2.1 F.2.2.1 F.2.2.2)⟩
theorem sv_setLcV (i : Nat) (hc : X.calm = true) (hN : X.N.Nodup) (hi : IV X tg iter fi) (ok : BlkOk X.N X.env.scope scope own)
    (hg : ∀ (s : Shared) (H : Hp) (C : Addr) (cl : List (Str × Addr)) (fp : List Addr), PG (X.blk s H scope (compEnvC scope cl C X.env) fp) tg g) (hgw : TgW X.K (own.map (·.2)) g t)
    (ht : ∀ (s : Shared) (H : Hp) (C : Addr) (cl : List (Str × Addr)) (fp : List Addr) (B : Bs), PTs (X.blk s H scope (compEnvC scope cl C X.env) fp) ifs (Tt X.K B u))
    (he : ∀ (s : Shared) (H : Hp) (C : Addr) (cl : List (Str × Addr)) (fp : List Addr), EV (X.blk s H scope (compEnvC scope cl C X.env) fp) elt el)
    (hsw : swapsWith (.ListComp elt [⟨tg, iter, ifs, 0⟩] scope pos) (some (.Name y py)) spos.line X.env = pure true) (hy : X.N[i]? = some y := by rfl) (hyl : X.env.scope.names.lookup y = some .local := by rfl) (hs : ∀ x, foldedSetIterable iter X.env x = pure x := by intro _; rfl) :
    SV X (.Assign [.Name y py] (.ListComp elt [⟨tg, iter, ifs, 0⟩] scope pos) spos) (setv i (ofO (lcS (own.map (·.2)) fi t u el))) := fun B =>
  PS.weak (ps_setLc (tt := fun σ H Q => ∃ B, Tt X.K B u σ H Q) (te := fun σ H Q => ∃ B, Tv X.K B el σ H Q) hc hN hy hyl hsw (hi B) ok hg
    (fun s H C cl fp => ⟨fun pins s' σ H' Q I ⟨B', h⟩ => (ht s H C cl fp B').run pins s' σ H' Q I h⟩)
    (fun s H C cl fp => ⟨fun pins s' σ H' Q I ⟨B', h⟩ => (he s H C cl fp B').run pins s' σ H' Q I h⟩) hs) fun Dn σ H ⟨G, s, o, R, h, k⟩ => by
    unfold setv ofO at h
    cases q : lcS (own.map (·.2)) fi t u el s with
    | none => rw [q] at h; cases h
    | some r =>
      rw [q] at h; cases h
      exact lc_ok hgw (fun _ _ _ h => h) σ H _ ⟨G, s, r.1, r.2, R, q, fun p vs G' H' a R' F r' => k _ (upd G' p (.lst vs)) H' (a.trans (same_upd F.2.1)) ((R'.freeze F.1 F.2.2.1 F.2.2.2 F.2.1).setv (.lst upd_same (r'.mono (same_upd F.2.1))))⟩
end
theorem pts_yes {B : Bs} : PTs X [] (Tt X.K B yes) := ⟨fun pins s σ H Q I ⟨G, s1, b, s2, R, h, k⟩ => by cases h; exact pts_nil.run pins s σ H Q I (k G H (Same.refl G) R)⟩
theorem pts_if {c : Expr} {B : Bs} (h : TV X c u) : PTs X [c] (Tt X.K B u) := pts_one (h B)
end
end DL
namespace DL
open PySem L2
/-! ### defs -/
inductive Rt where
  | v (d : D) | o (ds : List D)
def RtR (K : PySem.W.Frag) (G' H H' : Hp) : Rt → V → Prop
  | .v d, v => Rep K G' d v
  | .o es, v => ∃ q us, v = .ref q ∧ H' q = some (.lst us) ∧ RepL K G' es us ∧ G' q = none ∧ H q = none
/-- a def of values: F of them is handed back, all that stood stands -/
def spV (K : PySem.W.Frag) (n : Nat) (F : List D → Option Rt) : Sp := fun vs H Q _ => ∃ G ds r, vs.length = n ∧ Same G H ∧ RepL K G ds vs ∧ F ds = some r ∧
  ∀ v G' H', Same G G' → Same G' H' → (∀ b o, G' b = some o → G b = some o ∨ H b = none) → Same H H' → RtR K G' H H' r v → Q v H'
/-- a def that changes the list that is its first argument -/
def spI (K : PySem.W.Frag) (n : Nat) (F : List D → List D → Option (Rt × List D)) : Sp := fun vs H Q _ => ∃ G p ws xs m ds r m', vs = .ref p :: ws ∧ ws.length + 1 = n ∧ Same G H ∧ H p = some (.lst xs) ∧ RepL K G m xs ∧ G p = none ∧ RepL K G ds ws ∧ F m ds = some (r, m') ∧
  ∀ v G' H' us, Same G G' → Same G' H' → (∀ b o, G' b = some o → G b = some o ∨ H b = none) → (∀ b o, H b = some o → b ≠ p → H' b = some o) → H' p = some (.lst us) → RepL K G' m' us → RtR K G' H H' r v → Q v H'
def entV (n : Nat) (ds : List D) : S := ⟨ds.map .v ++ List.replicate (n - ds.length) .no, []⟩
def entI (n : Nat) (m ds : List D) : S := ⟨.io :: ds.map .v ++ List.replicate (n - (ds.length + 1)) .no, m⟩
def endV (o : Option Fl) : Option Rt := o.bind fun
  | .rt d _ => some (.v d)
  | .ro ds _ => some (.o ds)
  | .nx _ => some (.v .non)
  | _ => none
def endI (o : Option Fl) : Option (Rt × List D) := o.bind fun
  | .rt d s => some (.v d, s.m)
  | .ro ds s => some (.o ds, s.m)
  | .nx s => some (.v .non, s.m)
  | _ => none
section
variable {P : Program} {w : World} {K : PySem.W.Frag} {mg : Str → Option Value} {base : Heap} {x qual : Str} {st : Stmt} {f : Addr} {fd : FuncData} {N ps : List Str} {k : Nat}
theorem ent_slots {G H : Hp} {B : Bs} : ∀ {ds : List D} {vs : List V} (r : RepL K G ds vs) (n : Nat) (i : Nat) (sl : Sl), (ds.map Sl.v ++ List.replicate n .no)[i]? = some sl → ∃ o, (vs.map some ++ List.replicate n none)[i]? = some o ∧ SlR K B G H sl o
  | _, _, .nil, n, i, sl, h => by
    simp only [List.map_nil, List.nil_append] at h ⊢
    obtain ⟨h1, h2⟩ := List.getElem?_eq_some_iff.mp h
    simp only [List.length_replicate] at h1
    simp only [List.getElem_replicate] at h2
    subst h2
    exact ⟨none, by rw [List.getElem?_replicate, if_pos h1], trivial⟩
  | _, _, .cons (v := v) h1 h2, n, 0, sl, h => by
    simp only [List.map_cons, List.cons_append, List.getElem?_cons_zero, Option.some.injEq] at h
    subst h
    exact ⟨some v, rfl, v, rfl, h1⟩
  | _, _, .cons h1 h2, n, i + 1, sl, h => by
    simp only [List.map_cons, List.cons_append, List.getElem?_cons_succ] at h ⊢
    exact ent_slots h2 n i sl h
theorem ent_noown {ds : List D} {n i : Nat} {es : List D} (h : (ds.map Sl.v ++ List.replicate n .no)[i]? = some (.own es)) : False := by
  have hm := List.mem_of_getElem? h
  rcases List.mem_append.mp hm with z | z
  · obtain ⟨d, _, e⟩ := List.mem_map.mp z; cases e
  · have := List.eq_of_mem_replicate z; cases this
theorem fn_v {g : S → Option Fl} {F : List D → Option Rt} (Fn : Fun K x qual st f fd) (Sc : FnScope N ps (defScope st)) (hl : ps.length ≤ N.length)
    (hb : ∀ (cdv : Value) (A : Around) (outer : List Env) (s : Shared) (H : Hp) (E : XK), Room k (A.deeper (PyProof.Rows.envOfC qual (defScope st) s.heap.objs.size f cdv)) → SVs (cxOf CX0 P w K mg base N qual (defScope st) f cdv A outer s H E).nox (defBody st) g)
    (hF : ∀ ds r, ds.length = ps.length → F ds = some r → endV (g (entV N.length ds)) = some r) : FnOk P w K mg base CX0 (k + 1) f fd ps (spV K ps.length F) := by
  refine Fn.ok Sc (fun vs H Q E ⟨G, ds, r, e, _⟩ => e) fun cdv A outer s H vs Q E hr ⟨G, ds, r, e, hs, rl, hf, kk⟩ => ⟨_, hb cdv A outer s H E hr ⟨H, G, none⟩, ?_⟩
  have hg := hF ds r (by rw [rl.length]; exact e) hf
  cases q : g (entV N.length ds) with
  | none => rw [q] at hg; cases hg
  | some o =>
    rw [q] at hg
    have hd := rl.length
    have R : Rp K ⟨H, G, none⟩ G H (L2.start N vs) (entV N.length ds) := by
      refine ⟨hs, Same.refl G, hs, fun b o q => .inl q, fun b o q _ => q, by simp [L2.start, entV, hd], fun i sl q => ?_, fun i j p ds' es n h1 => (ent_noown h1).elim, fun p q => (nomatch q), fun p q => (nomatch q)⟩
      have := ent_slots (B := ⟨H, G, none⟩) (H := H) rl (N.length - ds.length) i sl q
      rw [hd] at this
      exact this
    refine ⟨G, _, o, R, q, ?_⟩
    have sm : ∀ {G' H' : Hp} {σ' : L2.St} {s' : S}, Rp K ⟨H, G, none⟩ G' H' σ' s' → Same G' H' ∧ (∀ b o, G' b = some o → G b = some o ∨ H b = none) ∧ Same H H' := fun R' => ⟨R'.sub, R'.new, fun b o q => R'.frame b o q (by simp)⟩
    cases o with
    | nx s' => cases hg; exact fun σ' G' H' a R' => kk .non G' H' a (sm R').1 (sm R').2.1 (sm R').2.2 .non
    | rt d s' => cases hg; exact fun v σ' G' H' a R' r' => kk v G' H' a (sm R').1 (sm R').2.1 (sm R').2.2 r'
    | ro ds' s' => cases hg; exact fun p us σ' G' H' a R' F' r' => kk _ G' H' a (sm R').1 (sm R').2.1 (sm R').2.2 ⟨p, us, rfl, F'.1, r', F'.2.1, F'.2.2.1⟩
    | bk s' => cases hg
    | ct s' => cases hg
theorem fn_i {g : S → Option Fl} {F : List D → List D → Option (Rt × List D)} (Fn : Fun K x qual st f fd) (Sc : FnScope N ps (defScope st)) (hl : ps.length ≤ N.length)
    (hb : ∀ (cdv : Value) (A : Around) (outer : List Env) (s : Shared) (H : Hp) (E : XK), Room k (A.deeper (PyProof.Rows.envOfC qual (defScope st) s.heap.objs.size f cdv)) → SVs (cxOf CX0 P w K mg base N qual (defScope st) f cdv A outer s H E).nox (defBody st) g)
    (hF : ∀ m ds r, ds.length + 1 = ps.length → F m ds = some r → endI (g (entI N.length m ds)) = some r) : FnOk P w K mg base CX0 (k + 1) f fd ps (spI K ps.length F) := by
  refine Fn.ok Sc (fun vs H Q E ⟨G, p, ws, xs, m, ds, r, m', e, e2, _⟩ => by rw [e]; exact e2) fun cdv A outer s H vs Q E hr ⟨G, p, ws, xs, m, ds, r, m', e, e2, hs, hp, rm, gp, rl, hf, kk⟩ => ⟨_, hb cdv A outer s H E hr ⟨H, G, some p⟩, ?_⟩
  have hg := hF m ds (r, m') (by rw [rl.length]; exact e2) hf
  subst e
  cases q : g (entI N.length m ds) with
  | none => rw [q] at hg; cases hg
  | some o =>
    rw [q] at hg
    have hd := rl.length
    have R : Rp K ⟨H, G, some p⟩ G H (L2.start N (.ref p :: ws)) (entI N.length m ds) := by
      refine ⟨hs, Same.refl G, hs, fun b o q => .inl q, fun b o q _ => q, by simp [L2.start, entI, hd], fun i sl q => ?_, fun i j p ds' es n h1 => ?_, fun b q => ?_, fun b q => ?_⟩
      · cases i with
        | zero => cases q; exact ⟨_, rfl, p, rfl, rfl⟩
        | succ i =>
          have q' : (ds.map Sl.v ++ List.replicate (N.length - (ds.length + 1)) .no)[i]? = some sl := by simpa [entI] using q
          have := ent_slots (B := ⟨H, G, some p⟩) (H := H) rl (N.length - (ds.length + 1)) i sl q'
          rw [hd] at this
          simpa [L2.start] using this
      · cases i with
        | zero => cases h1
        | succ i => exact (ent_noown (ds := ds) (n := N.length - (ds.length + 1)) (i := i) (by simpa [entI] using h1)).elim
      · cases q; exact ⟨xs, hp, rm, gp⟩
      · cases q; exact ⟨_, hp⟩
    refine ⟨G, _, o, R, q, ?_⟩
    have sm : ∀ {G' H' : Hp} {σ' : L2.St} {s' : S}, Rp K ⟨H, G, some p⟩ G' H' σ' s' → Same G' H' ∧ (∀ b o, G' b = some o → G b = some o ∨ H b = none) ∧ (∀ b o, H b = some o → b ≠ p → H' b = some o) ∧ ∃ us, H' p = some (.lst us) ∧ RepL K G' s'.m us := fun R' =>
      ⟨R'.sub, R'.new, fun b o q n => R'.frame b o q (fun z => n (by cases z; rfl)), let ⟨us, a, b, _⟩ := R'.iok p rfl; ⟨us, a, b⟩⟩
    cases o with
    | nx s' => cases hg; exact fun σ' G' H' a R' => let ⟨a1, a2, a3, us, a4, a5⟩ := sm R'; kk .non G' H' us a a1 a2 a3 a4 a5 .non
    | rt d s' => cases hg; exact fun v σ' G' H' a R' r' => let ⟨a1, a2, a3, us, a4, a5⟩ := sm R'; kk v G' H' us a a1 a2 a3 a4 a5 r'
    | ro ds' s' => cases hg; exact fun p' us' σ' G' H' a R' F' r' => let ⟨a1, a2, a3, us, a4, a5⟩ := sm R'; kk _ G' H' us a a1 a2 a3 a4 a5 ⟨p', us', rfl, F'.1, r', F'.2.1, F'.2.2.1⟩
    | bk s' => cases hg
    | ct s' => cases hg
end
/-! ### calls -/
def rtD : Rt → D
  | .v d => d
  | .o ds => .lst ds
def callF (F : List D → Option Rt) (t : S → Option (List D × S)) (s : S) : Option (D × S) := (t s).bind fun r => (F r.1).map fun q => (rtD q, r.2)
def callFo (F : List D → Option Rt) (t : S → Option (List D × S)) (s : S) : Option (List D × S) := (t s).bind fun r => (F r.1).bind fun q => match q with | .o ds => some (ds, r.2) | _ => none
def callI (i : Nat) (F : List D → List D → Option (Rt × List D)) (t : S → Option (List D × S)) (s : S) : Option (D × S) :=
  (ownO i s).bind fun _ => (t s).bind fun r => (ownO i r.2).bind fun m => (F m r.1).bind fun q => (putO i q.2 r.2).map fun s' => (rtD q.1, s')
section
variable {X : Cx} {k : Nat} {f : Addr} {fd : FuncData} {ps : List Str} {n : Nat} {F : List D → Option Rt} {x : Str} {p pos : Pos} {e : Expr} {es : List Expr} {t : S → Option (List D × S)}
theorem sp_ok {K : PySem.W.Frag} {B : Bs} {G H : Hp} {σ : L2.St} {s : S} {ds : List D} {vs : List V} {r : Rt} {Q : VK} {E : XK} (R : Rp K B G H σ s) (rl : RepL K G ds vs) (hn : vs.length = n) (hf : F ds = some r)
    (k : ∀ v G' H', Same G G' → Rp K B G' H' σ s → RtR K G' H H' r v → Q v H') : spV K n F vs H Q E :=
  ⟨G, ds, r, hn, R.sub, rl, hf, fun v G' H' a b c d r' => k v G' H' a (R.go a b c d) r'⟩
/-- what is handed back, frozen where it is a new list -/
theorem rt_v {K : PySem.W.Frag} {B : Bs} {G' H H' : Hp} {σ : L2.St} {s : S} {r : Rt} {v : V} (R : Rp K B G' H' σ s) (hF : ∀ q, H q = none → B.F q = none) (hs : ∀ q, H q = none → ∀ (i : Nat) (es : List D), s.e[i]? = some (.own es) → σ[i]? ≠ some (some (.ref q))) (h : RtR K G' H H' r v) :
    ∃ G2, Same G' G2 ∧ Rp K B G2 H' σ s ∧ Rep K G2 (rtD r) v := by
  cases r with
  | v d => exact ⟨G', Same.refl _, R, h⟩
  | o es =>
    obtain ⟨q, us, rfl, h1, h2, h3, h4⟩ := h
    exact ⟨upd G' q (.lst us), same_upd h3, R.freeze h1 (hF q h4) (hs q h4) h3, .lst upd_same (h2.mono (same_upd h3))⟩
theorem new_slot {K : PySem.W.Frag} {B : Bs} {G H : Hp} {σ : L2.St} {s : S} (R : Rp K B G H σ s) (q : Addr) (hq : H q = none) (i : Nat) (es : List D) (e : s.e[i]? = some (.own es)) : σ[i]? ≠ some (some (.ref q)) := fun z => by
  obtain ⟨b, ws, e1, a1, _⟩ := R.ownAt e
  rw [e1] at z; cases z
  rw [hq] at a1; cases a1
theorem callF_ok {K : PySem.W.Frag} {B : Bs} {ta : TA} {E : XK} (hn : ∀ ds, F ds ≠ none → ds.length = n) (ha : ∀ σ H Q, Ta K B t σ H Q → ta σ H Q) (σ : L2.St) (H : Hp) (Q : VK) (h : Tv K B (callF F t) σ H Q) : tCall (spV K n F) [] E ta σ H Q := by
  obtain ⟨G, s, d, s', R, h, kk⟩ := h
  unfold callF at h
  cases q : t s with
  | none => rw [q] at h; cases h
  | some r1 =>
    rw [q] at h
    obtain ⟨ds, s1⟩ := r1
    simp only [Option.bind_some] at h
    cases q2 : F ds with
    | none => rw [q2] at h; cases h
    | some z =>
      rw [q2] at h; cases h
      refine ha σ H _ ⟨G, s, ds, s', R, q, fun vs G1 H1 a1 R1 rl => ?_⟩
      show spV K n F (vs ++ []) H1 Q E
      rw [List.append_nil]
      refine sp_ok R1 rl (by rw [← rl.length]; exact hn ds (by rw [q2]; simp)) q2 fun v G2 H2 a2 R2 r2 => ?_
      obtain ⟨G3, a3, R3, r3⟩ := rt_v R2 (fun q hq => R1.fF hq) (fun q hq => new_slot R1 q hq) r2
      exact kk v G3 H2 ((a1.trans a2).trans a3) R3 r3
theorem callFo_ok {K : PySem.W.Frag} {B : Bs} {ta : TA} {E : XK} (hn : ∀ ds, F ds ≠ none → ds.length = n) (ha : ∀ σ H Q, Ta K B t σ H Q → ta σ H Q) (σ : L2.St) (H : Hp) (Q : VK) (h : To K B (callFo F t) σ H Q) : tCall (spV K n F) [] E ta σ H Q := by
  obtain ⟨G, s, d, s', R, h, kk⟩ := h
  unfold callFo at h
  cases q : t s with
  | none => rw [q] at h; cases h
  | some r1 =>
    rw [q] at h
    obtain ⟨ds, s1⟩ := r1
    simp only [Option.bind_some] at h
    cases q2 : F ds with
    | none => rw [q2] at h; cases h
    | some z =>
      rw [q2] at h
      cases z with
      | v d => cases h
      | o es =>
        cases h
        refine ha σ H _ ⟨G, s, ds, s', R, q, fun vs G1 H1 a1 R1 rl => ?_⟩
        show spV K n F (vs ++ []) H1 Q E
        rw [List.append_nil]
        refine sp_ok R1 rl (by rw [← rl.length]; exact hn ds (by rw [q2]; simp)) q2 fun v G2 H2 a2 R2 r2 => ?_
        obtain ⟨q, us, rfl, h1, h2, h3, h4⟩ := r2
        exact kk q us G2 H2 (a1.trans a2) R2 ⟨h1, h3, R1.fF h4, new_slot R1 q h4⟩ h2
theorem ev_call (Fn : FnOk X.prog X.w X.K X.mg X.base CX0 k f fd ps (spV X.K n F)) (hr : Room k X.A) (hm : X.mg x = some (.ref f)) (hk : PySem.W.keepIn X.K (.ref f) = true) (hb : Binds X.K fd ps []) (hn : ∀ ds, F ds ≠ none → ds.length = n)
    (ha : AV X (e :: es) t) (hg : Gl X x := by rfl) (hdb : (x == ("__debug__" : Str)) = false := by decide) (he : starEach (e :: es) X.env = (false, eval e X.env) :: starEach es X.env := by rfl) (hpl : (backTo pos (starEach es X.env)).any (·.1) = false := by rfl) :
    EV X (.Call (.Name x p) (e :: es) [] pos) (callF F t) := fun B =>
  PE.weak (pe_call Fn hr hg hm hk hb .nil pass0 (ha B) hdb he hpl) (callF_ok hn fun _ _ _ h => h)
theorem eo_call (Fn : FnOk X.prog X.w X.K X.mg X.base CX0 k f fd ps (spV X.K n F)) (hr : Room k X.A) (hm : X.mg x = some (.ref f)) (hk : PySem.W.keepIn X.K (.ref f) = true) (hb : Binds X.K fd ps []) (hn : ∀ ds, F ds ≠ none → ds.length = n)
    (ha : AV X (e :: es) t) (hg : Gl X x := by rfl) (hdb : (x == ("__debug__" : Str)) = false := by decide) (he : starEach (e :: es) X.env = (false, eval e X.env) :: starEach es X.env := by rfl) (hpl : (backTo pos (starEach es X.env)).any (·.1) = false := by rfl) :
    EO X (.Call (.Name x p) (e :: es) [] pos) (callFo F t) := fun B =>
  PE.weak (pe_call Fn hr hg hm hk hb .nil pass0 (ha B) hdb he hpl) (callFo_ok hn fun _ _ _ h => h)
theorem ev_call0 (Fn : FnOk X.prog X.w X.K X.mg X.base CX0 k f fd ps (spV X.K n F)) (hr : Room k X.A) (hm : X.mg x = some (.ref f)) (hk : PySem.W.keepIn X.K (.ref f) = true) (hb : Binds X.K fd ps []) (hn : ∀ ds, F ds ≠ none → ds.length = n)
    (hg : Gl X x := by rfl) (hdb : (x == ("__debug__" : Str)) = false := by decide) : EV X (.Call (.Name x p) [] [] pos) (callF F anil) := fun B =>
  PE.weak (pe_call0 Fn hr hg hm hk hb .nil pass0 hdb) (callF_ok hn fun σ H Q ⟨G, s, ds, s', R, h, k⟩ => by cases h; exact k [] G H (Same.refl G) R .nil)
/-- f(i, ..): the list of the name i is changed -/
theorem callI_ok {K : PySem.W.Frag} {B : Bs} {ta : TA} {E : XK} {i : Nat} {F : List D → List D → Option (Rt × List D)} (hn : ∀ m ds, F m ds ≠ none → ds.length + 1 = n) (ha : ∀ σ H Q, Ta K B t σ H Q → ta σ H Q) (σ : L2.St) (H : Hp) (Q : VK)
    (h : Tv K B (callI i F t) σ H Q) : tCall (spI K n F) [] E (tCons (tVar i) ta) σ H Q := by
  obtain ⟨G, s, d, s', R, h, kk⟩ := h
  unfold callI at h
  cases q0 : ownO i s with
  | none => rw [q0] at h; cases h
  | some m0 =>
    rw [q0] at h
    simp only [Option.bind_some] at h
    cases q : t s with
    | none => rw [q] at h; cases h
    | some r1 =>
      rw [q] at h
      obtain ⟨ds, s1⟩ := r1
      simp only [Option.bind_some] at h
      cases q1 : ownO i s1 with
      | none => rw [q1] at h; cases h
      | some m1 =>
        rw [q1] at h
        simp only [Option.bind_some] at h
        cases q2 : F m1 ds with
        | none => rw [q2] at h; cases h
        | some z =>
          rw [q2] at h
          obtain ⟨r, m'⟩ := z
          simp only [Option.bind_some] at h
          cases q3 : putO i m' s1 with
          | none => rw [q3] at h; cases h
          | some s2 =>
            rw [q3] at h; cases h
            obtain ⟨b0, xs0, e0, _⟩ := ownO_ok R q0
            refine ⟨.ref b0, e0, ha σ H _ ⟨G, s, ds, s1, R, q, fun vs G1 H1 a1 R1 rl => ?_⟩⟩
            show spI K n F ((.ref b0 :: vs) ++ []) H1 Q E
            rw [List.append_nil]
            obtain ⟨b, xs, e1, c1, c2, c3⟩ := ownO_ok R1 q1
            have : b0 = b := by rw [e0] at e1; cases e1; rfl
            subst this
            refine ⟨G1, b0, vs, xs, m1, ds, r, m', rfl, by rw [← rl.length]; exact hn m1 ds (by rw [q2]; simp), R1.sub, c1, c2, c3, rl, q2, fun v G2 H2 us a2 b2 c2' d2 e2 f2 r2 => ?_⟩
            have R2 := putO_ok R1 q3 e0 a2 b2 c2' d2 e2 f2
            have hs : ∀ q, H1 q = none → ∀ (j : Nat) (es : List D), s'.e[j]? = some (.own es) → σ[j]? ≠ some (some (.ref q)) := fun q hq j es z w => by
              obtain ⟨bb, ws, w1, w2, w3, w4, w5⟩ := R2.ownAt z
              rw [w1] at w; cases w
              -- a slot's own list stood ahead of the call
              cases q9 : s1.e[j]? with
              | none =>
                have hj : j < σ.length := (List.getElem?_eq_some_iff.mp w1).1
                rw [R1.len] at hj
                rw [List.getElem?_eq_getElem hj] at q9; cases q9
              | some sl =>
                obtain ⟨ov, x1, x2⟩ := R1.slots j sl q9
                rw [w1] at x1; cases x1
                unfold putO at q3
                cases sl with
                | own fs =>
                  obtain ⟨y, ys, y1, y2, _⟩ := x2
                  cases y1
                  rw [hq] at y2; cases y2
                | no =>
                  cases q8 : s1.e[i]? with
                  | none => rw [q8] at q3; cases q3
                  | some sl8 =>
                    rw [q8] at q3
                    have hij : i ≠ j := fun e => by subst e; rw [q8] at q9; cases q9; cases q3
                    cases sl8 <;> cases q3
                    · simp only [S.setO] at z; rw [List.getElem?_set_ne hij, q9] at z; cases z
                    · simp only at z; rw [q9] at z; cases z
                | v d =>
                  cases q8 : s1.e[i]? with
                  | none => rw [q8] at q3; cases q3
                  | some sl8 =>
                    rw [q8] at q3
                    have hij : i ≠ j := fun e => by subst e; rw [q8] at q9; cases q9; cases q3
                    cases sl8 <;> cases q3
                    · simp only [S.setO] at z; rw [List.getElem?_set_ne hij, q9] at z; cases z
                    · simp only at z; rw [q9] at z; cases z
                | io =>
                  cases q8 : s1.e[i]? with
                  | none => rw [q8] at q3; cases q3
                  | some sl8 =>
                    rw [q8] at q3
                    cases sl8 <;> cases q3
                    · have hij : i ≠ j := fun e => by subst e; rw [q8] at q9; cases q9
                      simp only [S.setO] at z; rw [List.getElem?_set_ne hij, q9] at z; cases z
                    · simp only at z; rw [q9] at z; cases z
            obtain ⟨G3, a3, R3, r3⟩ := rt_v R2 (fun q hq => R1.fF hq) hs r2
            exact kk v G3 H2 ((a1.trans a2).trans a3) R3 r3
theorem ev_callI (i : Nat) {F : List D → List D → Option (Rt × List D)} {y : Str} {py : Pos} (Fn : FnOk X.prog X.w X.K X.mg X.base CX0 k f fd ps (spI X.K n F)) (hr : Room k X.A) (hm : X.mg x = some (.ref f)) (hk : PySem.W.keepIn X.K (.ref f) = true) (hb : Binds X.K fd ps []) (hn : ∀ m ds, F m ds ≠ none → ds.length + 1 = n)
    (ha : AV X es t) (hN : X.N[i]? = some y := by rfl) (hv : Vis X.env.scope y := by first | exact Or.inl rfl | exact Or.inr (Or.inl rfl) | exact Or.inr (Or.inr rfl)) (hdy : (y == ("__debug__" : Str)) = false := by decide) (hcy : (y == ("__classdict__" : Str)) = false := by decide)
    (hg : Gl X x := by rfl) (hdb : (x == ("__debug__" : Str)) = false := by decide) (he : starEach (.Name y py :: es) X.env = (false, eval (.Name y py) X.env) :: starEach es X.env := by rfl) (hpl : (backTo pos (starEach es X.env)).any (·.1) = false := by rfl) :
    EV X (.Call (.Name x p) (.Name y py :: es) [] pos) (callI i F t) := fun B =>
  PE.weak (pe_call Fn hr hg hm hk hb .nil pass0 (pa_cons (pe_var (i := i) hN hv hdy hcy) (ha B) he) hdb he hpl) (callI_ok hn fun _ _ _ h => h)
end
end DL
namespace DL
open PySem L2
/-! ### operators and built-ins, by values -/
section
variable {K : PySem.W.Frag}
def i2 (g : Int → Int → Option D) : D → D → Option D
  | .int i, .int j => g i j
  | _, _ => none
theorem i2_ok {C : Int → Int → Prop} {g : Int → Int → V} {φ : Int → Int → Option D} (h : ∀ i j d, φ i j = some d → C i j ∧ ∀ G, Rep K G d (g i j)) : OpD K (rI C g) (i2 φ) := fun B G H σ s x y d v w Q R rx ry hd k => by
  cases rx <;> cases ry <;> first | (cases hd; done) | skip
  rename_i i j
  obtain ⟨a, b⟩ := h i j d hd
  exact ⟨i, j, rfl, rfl, a, k _ G H (Same.refl G) R (b G)⟩
theorem i20_ok {g : Int → Int → V} {φ : Int → Int → Option D} (h : ∀ i j d, φ i j = some d → ∀ G, Rep K G d (g i j)) : OpD K (rI0 g) (i2 φ) := fun B G H σ s x y d v w Q R rx ry hd k => by
  cases rx <;> cases ry <;> first | (cases hd; done) | skip
  rename_i i j
  exact ⟨i, j, rfl, rfl, k _ G H (Same.refl G) R (h i j d hd G)⟩
def subD : D → D → Option D := i2 fun i j => some (.int (i - j))
def ltD : D → D → Option D := i2 fun i j => some (.bl (decide (i < j)))
def leD : D → D → Option D := i2 fun i j => some (.bl (decide (i ≤ j)))
def gtD : D → D → Option D := i2 fun i j => some (.bl (decide (j < i)))
def geD : D → D → Option D := i2 fun i j => some (.bl (decide (j ≤ i)))
def modD : D → D → Option D := i2 fun i j => if 0 < j then some (.int (i % j)) else none
def fdivD : D → D → Option D := i2 fun i j => if (decide (0 < j) && decide (j.natAbs < 2 ^ 9000)) = true then some (.int (i / j)) else none
def powD : D → D → Option D := i2 fun i j => if (decide (0 ≤ j) && decide (j ≤ 1000000) && decide (i.natAbs < 2 ^ 64)) = true then some (.int (i ^ j.toNat)) else none
theorem d_sub : OpD K (rI0 fun i j => .int (i - j)) subD := i20_ok fun i j d h G => by cases h; exact .int _
theorem d_lt : OpD K (rI0 fun i j => .bl (decide (i < j))) ltD := i20_ok fun i j d h G => by cases h; exact .bl _
theorem d_le : OpD K (rI0 fun i j => .bl (decide (i ≤ j))) leD := i20_ok fun i j d h G => by cases h; exact .bl _
theorem d_gt : OpD K (rI0 fun i j => .bl (decide (j < i))) gtD := i20_ok fun i j d h G => by cases h; exact .bl _
theorem d_ge : OpD K (rI0 fun i j => .bl (decide (j ≤ i))) geD := i20_ok fun i j d h G => by cases h; exact .bl _
theorem d_mod : OpD K (rI (fun _ j => 0 < j) fun i j => .int (i % j)) modD := i2_ok fun i j d h => by
  split at h
  · rename_i c; cases h; exact ⟨c, fun G => .int _⟩
  · cases h
theorem d_fdiv : OpD K (rI CDivW fun i j => .int (i / j)) fdivD := i2_ok fun i j d h => by
  split at h
  · rename_i c
    rw [Bool.and_eq_true] at c
    cases h
    exact ⟨⟨of_decide_eq_true c.1, PySem.Flt.log2_lt_of (by decide) (of_decide_eq_true c.2)⟩, fun G => .int _⟩
  · cases h
theorem d_pow : OpD K (rI CPow fun i j => .int (i ^ j.toNat)) powD := i2_ok fun i j d h => by
  split at h
  · rename_i c
    rw [Bool.and_eq_true, Bool.and_eq_true] at c
    cases h
    exact ⟨⟨of_decide_eq_true c.1.1, of_decide_eq_true c.1.2, of_decide_eq_true c.2⟩, fun G => .int _⟩
  · cases h
/-! + of ints, texts, tuples, lists; * of ints, of a list or a tuple and an int -/
def rAddA (K : PySem.W.Frag) : R2 := fun x y H Q => (rI0 (fun i j => .int (i + j)) x y H Q) ∨ ((rCat x y H Q) ∨ (rCatA K x y H Q))
theorem op_addA {X : Cx} : OpR X (binaryOp .Add) (rAddA X.K) := OpR.or op_add (OpR.or op_cat op_catA)
def addD : D → D → Option D
  | .int i, .int j => some (.int (i + j))
  | .lst xs, .lst ys => if szOk (xs.length + ys.length) = true then some (.lst (xs ++ ys)) else none
  | .tup xs, .tup ys => if szOk (xs.length + ys.length) = true then some (.tup (xs ++ ys)) else none
  | _, _ => none
theorem d_add : OpD K (rAddA K) addD := fun B G H σ s x y d v w Q R rx ry hd k => by
  cases rx <;> cases ry <;> first | (cases hd; done) | skip
  · cases hd
    exact .inl ⟨_, _, rfl, rfl, k _ G H (Same.refl G) R (.int _)⟩
  · rename_i a vs ds h1 h2 b ws es h3 h4
    simp only [addD] at hd
    split at hd
    · rename_i hz
      cases hd
      rw [h2.length, h4.length] at hz
      refine .inr (.inr ⟨a, b, vs, ws, rfl, rfl, same_t R.sub h1, same_t R.sub h3, szOk_le hz, fun e => ?_, fun e1 e2 => ?_, fun e1 e2 p hp => ?_⟩)
      · subst e; cases h2; exact k _ G H (Same.refl G) R (by simpa using .tup h3 h4)
      · subst e2; cases h4; exact k _ G H (Same.refl G) R (by simpa using .tup h1 h2)
      · have hg := R.gnone hp
        exact k _ (upd G p (.tup (vs ++ ws))) _ (same_upd hg) (R.allocG hp) (.tup (SqT.of upd_same) ((h2.app h4).mono (same_upd hg)))
    · cases hd
  · rename_i a vs ds h1 h2 b ws es h3 h4
    simp only [addD] at hd
    split at hd
    · rename_i hz
      cases hd
      rw [h2.length, h4.length] at hz
      refine .inr (.inl ⟨a, b, vs, ws, rfl, rfl, R.sub _ _ h1, R.sub _ _ h3, szOk_le hz, fun p hp => ?_⟩)
      have hg := R.gnone hp
      exact k _ (upd G p (.lst (vs ++ ws))) _ (same_upd hg) (R.allocG hp) (.lst upd_same ((h2.app h4).mono (same_upd hg)))
    · cases hd
def rMulA (K : PySem.W.Frag) : R2 := fun x y H Q => (rI CMul (fun i j => .int (i * j)) x y H Q) ∨ (rRep x y H Q)
theorem op_mulA {X : Cx} : OpR X (binaryOp .Mult) (rMulA X.K) := OpR.or op_mul op_rep
def mulOk (i j : Int) : Bool := decide (i.natAbs < 2 ^ 64) || decide (j.natAbs < 2 ^ 64)
def mulD : D → D → Option D
  | .int i, .int j => if mulOk i j = true then some (.int (i * j)) else none
  | .lst xs, .int k => if (decide (k.natAbs < 2 ^ 63) && szOk (xs.length * k.toNat)) = true then some (.lst (List.replicate k.toNat xs).flatten) else none
  | _, _ => none
theorem d_mul : OpD K (rMulA K) mulD := fun B G H σ s x y d v w Q R rx ry hd k => by
  cases rx <;> cases ry <;> first | (cases hd; done) | skip
  · rename_i i j
    simp only [mulD] at hd
    split at hd
    · rename_i hz
      cases hd
      refine .inl ⟨_, _, rfl, rfl, ?_, k _ G H (Same.refl G) R (.int _)⟩
      unfold mulOk at hz
      rw [Bool.or_eq_true] at hz
      rcases hz with z | z
      · have := of_decide_eq_true z; exact .inl ⟨by omega, by omega⟩
      · have := of_decide_eq_true z; exact .inr ⟨by omega, by omega⟩
    · cases hd
  · rename_i a vs ds h1 h2 j
    simp only [mulD] at hd
    split at hd
    · rename_i hz
      rw [Bool.and_eq_true] at hz
      cases hd
      have hj := of_decide_eq_true hz.1
      have hz2 := hz.2
      rw [h2.length] at hz2
      refine .inr ⟨a, j, vs, rfl, rfl, R.sub _ _ h1, by omega, by omega, szOk_le hz2, fun p hp => ?_⟩
      have hg := R.gnone hp
      exact k _ (upd G p (.lst (List.replicate j.toNat vs).flatten)) _ (same_upd hg) (R.allocG hp) (.lst upd_same ((h2.flat _).mono (same_upd hg)))
    · cases hd
/-! == and != of whatever -/
mutual
def toPy : D → Option PyData
  | .non => some .none
  | .bl b => some (.bool b)
  | .int i => some (.int i)
  | .str x => some (.str x)
  | .tup ds => (toPys ds).map .tuple
  | .lst ds => (toPys ds).map .list
  | .fl ds => (toPys ds).map .list
  | .ty _ => none
  | .obj _ => none
def toPys : List D → Option (List PyData)
  | [] => some []
  | d :: ds => (toPy d).bind fun x => (toPys ds).map fun xs => x :: xs
end
mutual
theorem toPy_ok {G H : Hp} (hs : Same G H) : ∀ {d : D} {v : V} {x : PyData}, Rep K G d v → toPy d = some x → Dp K H v x
  | _, _, _, .non, h => by unfold toPy at h; cases h; exact .non
  | _, _, _, .bl b, h => by unfold toPy at h; cases h; exact .bl b
  | _, _, _, .int b, h => by unfold toPy at h; cases h; exact .int b
  | _, _, _, .str b, h => by unfold toPy at h; cases h; exact .str b
  | _, _, _, .ty b, h => by unfold toPy at h; cases h
  | _, _, _, .obj b, h => by unfold toPy at h; cases h
  | _, _, _, .tup (ds := ds) h1 h2, h => by
    unfold toPy at h
    cases q : toPys ds with
    | none => rw [q] at h; cases h
    | some xs => rw [q] at h; cases h; exact .tup (same_t hs h1) (toPys_ok hs h2 q)
  | _, _, _, .lst (ds := ds) h1 h2, h => by
    unfold toPy at h
    cases q : toPys ds with
    | none => rw [q] at h; cases h
    | some xs => rw [q] at h; cases h; exact .lst (SqL.of (hs _ _ h1)) (toPys_ok hs h2 q)
  | _, _, _, .fl (ds := ds) h1 h2, h => by
    unfold toPy at h
    cases q : toPys ds with
    | none => rw [q] at h; cases h
    | some xs => rw [q] at h; cases h; exact .lst (hs.seq h1) (toPys_ok hs h2 q)
theorem toPys_ok {G H : Hp} (hs : Same G H) : ∀ {ds : List D} {vs : List V} {xs : List PyData}, RepL K G ds vs → toPys ds = some xs → DpAll K H vs xs
  | _, _, _, .nil, h => by unfold toPys at h; cases h; exact .nil
  | _, _, _, .cons (d := d) (ds := ds) h1 h2, h => by
    unfold toPys at h
    cases q : toPy d with
    | none => rw [q] at h; cases h
    | some x =>
      rw [q] at h
      simp only [Option.bind_some] at h
      cases q2 : toPys ds with
      | none => rw [q2] at h; cases h
      | some xs => rw [q2] at h; cases h; exact .cons (toPy_ok hs h1 q) (toPys_ok hs h2 q2)
end
def eqB (x y : D) : Option Bool := (toPy x).bind fun a => (toPy y).bind fun b => if (SeqAt.shaped a && SeqAt.shaped b) = true then some (PyData.eqv a b) else none
def eqD (x y : D) : Option D := (eqB x y).map .bl
def neD (x y : D) : Option D := (eqB x y).map fun b => .bl (!b)
theorem eqB_ok {G H : Hp} {x y : D} {v w : V} {b : Bool} (hs : Same G H) (rx : Rep K G x v) (ry : Rep K G y w) (h : eqB x y = some b) : ∃ d e, Dp K H v d ∧ Dp K H w e ∧ SeqAt.shaped d = true ∧ SeqAt.shaped e = true ∧ b = PyData.eqv d e := by
  unfold eqB at h
  cases q : toPy x with
  | none => rw [q] at h; cases h
  | some d =>
    rw [q] at h
    simp only [Option.bind_some] at h
    cases q2 : toPy y with
    | none => rw [q2] at h; cases h
    | some e =>
      rw [q2] at h
      simp only [Option.bind_some] at h
      split at h
      · rename_i hz
        rw [Bool.and_eq_true] at hz
        cases h
        exact ⟨d, e, toPy_ok hs rx q, toPy_ok hs ry q2, hz.1, hz.2, rfl⟩
      · cases h
theorem d_eq : OpD K (rEqD K) eqD := fun B G H σ s x y d v w Q R rx ry hd k => by
  unfold eqD at hd
  cases q : eqB x y with
  | none => rw [q] at hd; cases hd
  | some b =>
    rw [q] at hd; cases hd
    obtain ⟨a, c, h1, h2, h3, h4, rfl⟩ := eqB_ok R.sub rx ry q
    exact ⟨a, c, h1, h2, h3, h4, k _ G H (Same.refl G) R (.bl _)⟩
theorem d_ne : OpD K (rNeD K) neD := fun B G H σ s x y d v w Q R rx ry hd k => by
  unfold neD at hd
  cases q : eqB x y with
  | none => rw [q] at hd; cases hd
  | some b =>
    rw [q] at hd; cases hd
    obtain ⟨a, c, h1, h2, h3, h4, rfl⟩ := eqB_ok R.sub rx ry q
    exact ⟨a, c, h1, h2, h3, h4, k _ G H (Same.refl G) R (.bl _)⟩
/-! is None -/
def isN (x y : D) : Option D := match y with | .non => some (.bl (match x with | .non => true | _ => false)) | _ => none
def notN (x y : D) : Option D := match y with | .non => some (.bl (match x with | .non => false | _ => true)) | _ => none
theorem d_isN : OpD K (fun x y H Q => y = .non ∧ Q (.bl (decide (x = .non))) H) isN := fun B G H σ s x y d v w Q R rx ry hd k => by
  cases ry <;> first | (cases hd; done) | skip
  refine ⟨rfl, k _ G H (Same.refl G) R ?_⟩
  cases rx <;> cases hd <;> first | exact .bl _ | (simp; exact .bl _)
theorem d_notN : OpD K (fun x y H Q => y = .non ∧ Q (.bl (!decide (x = .non))) H) notN := fun B G H σ s x y d v w Q R rx ry hd k => by
  cases ry <;> first | (cases hd; done) | skip
  refine ⟨rfl, k _ G H (Same.refl G) R ?_⟩
  cases rx <;> cases hd <;> first | exact .bl _ | (simp; exact .bl _)
/-! x[i] -/
def ixD (x y : D) : Option D := match y with | .int i => (seqD x).bind fun ds => atI ds i | _ => none
theorem atI_rep {G : Hp} {ds : List D} {vs : List V} {i : Int} {d : D} (r : RepL K G ds vs) (h : atI ds i = some d) : ∃ v, atI vs i = some v ∧ Rep K G d v := by
  unfold atI at h ⊢
  rw [← r.length]
  cases q : ixN ds.length i with
  | none => rw [q] at h; cases h
  | some j => rw [q] at h; exact r.getD h
theorem d_ix : OpD K (rIx K) ixD := fun B G H σ s x y d v w Q R rx ry hd k => by
  unfold ixD at hd
  cases ry <;> first | (cases hd; done) | skip
  rename_i i
  simp only at hd
  cases rx <;> first | (cases hd; done) | skip
  · rename_i a vs ds h1 h2
    obtain ⟨u, e, r⟩ := atI_rep h2 hd
    exact .inr (.inl ⟨a, vs, i, u, rfl, rfl, same_t R.sub h1, e, k _ G H (Same.refl G) R r⟩)
  · rename_i a vs ds h1 h2
    obtain ⟨u, e, r⟩ := atI_rep h2 hd
    exact .inl ⟨a, vs, i, u, rfl, rfl, SqL.of (R.sub _ _ h1), e, k _ G H (Same.refl G) R r⟩
  · rename_i a vs ds h1 h2
    obtain ⟨u, e, r⟩ := atI_rep h2 hd
    exact .inl ⟨a, vs, i, u, rfl, rfl, R.sub.seq h1, e, k _ G H (Same.refl G) R r⟩
end
section
variable {X : Cx} {a b e : Expr} {f g : S → Option (D × S)} {pos p : Pos}
theorem ev_ix (ha : EV X a f) (hb : EV X b g) (hs : PlainIx b := by intro _ _; rfl) : EV X (.Subscript a b pos) (bin2 f g ixD) := fun B =>
  PE.weak (pe_ix ix_seq (ha B) (hb B) hs) (bin2_ok d_ix (fun _ _ _ h => h) fun _ _ _ h => h)
/-- x[e], x a name with a list of its own -/
def ixO (i : Nat) (g : S → Option (D × S)) (s : S) : Option (D × S) := (geto i s).bind fun _ => (g s).bind fun r => match r.1 with | .int k => (geto i r.2).bind fun ds => (atI ds k).map fun d => (d, r.2) | _ => none
theorem ev_ixO (i : Nat) {x : Str} {p : Pos} (hb : EV X b g) (hN : X.N[i]? = some x := by rfl) (hv : Vis X.env.scope x := by first | exact Or.inl rfl | exact Or.inr (Or.inl rfl) | exact Or.inr (Or.inr rfl)) (hd : (x == ("__debug__" : Str)) = false := by decide)
    (hcd : (x == ("__classdict__" : Str)) = false := by decide) (hs : PlainIx b := by intro _ _; rfl) : EV X (.Subscript (.Name x p) b pos) (ixO i g) := fun B =>
  PE.weak (pe_ix ix_seq (pe_var (i := i) hN hv hd hcd) (hb B) hs) fun σ H Q ⟨G, s, d, s', R, h, k⟩ => by
    unfold ixO at h
    cases q0 : geto i s with
    | none => rw [q0] at h; cases h
    | some ds0 =>
      rw [q0] at h
      simp only [Option.bind_some] at h
      cases q : g s with
      | none => rw [q] at h; cases h
      | some r =>
        rw [q] at h
        obtain ⟨y, s1⟩ := r
        simp only [Option.bind_some] at h
        cases y with
        | int j =>
          simp only at h
          cases q1 : geto i s1 with
          | none => rw [q1] at h; cases h
          | some ds1 =>
            rw [q1] at h
            simp only [Option.bind_some] at h
            cases q2 : atI ds1 j with
            | none => rw [q2] at h; cases h
            | some z =>
              rw [q2] at h; cases h
              obtain ⟨p0, vs0, e0, _, _⟩ := geto_ok R q0
              refine ⟨_, e0, G, s, .int j, s', R, q, fun w G1 H1 a1 R1 r1 => ?_⟩
              cases r1
              obtain ⟨p1, vs1, e1, l1, r1⟩ := geto_ok R1 q1
              rw [e0] at e1; cases e1
              obtain ⟨u, e2, r2⟩ := atI_rep r1 q2
              exact .inl ⟨p0, vs1, j, u, rfl, rfl, l1, e2, k _ G1 H1 a1 R1 r2⟩
        | _ => cases h
/-- x[i] = e, x a name with a list of its own -/
def setIx (i : Nat) (f g : S → Option (D × S)) (s : S) : Option Fl := (f s).bind fun r1 => (ownO i r1.2).bind fun _ => (g r1.2).bind fun r2 => match r2.1 with
  | .int k => (ownO i r2.2).bind fun ds => (ixN ds.length k).bind fun j => (putO i (ds.set j r1.1) r2.2).map .nx
  | _ => none
theorem sv_setIx (i : Nat) {x : Str} {p ps : Pos} (he : EV X e f) (hb : EV X b g) (hN : X.N[i]? = some x := by rfl) (hv : Vis X.env.scope x := by first | exact Or.inl rfl | exact Or.inr (Or.inl rfl) | exact Or.inr (Or.inr rfl)) (hd : (x == ("__debug__" : Str)) = false := by decide)
    (hcd : (x == ("__classdict__" : Str)) = false := by decide)
    (ha : ∀ v, assign (.Subscript (.Name x p) b ps) X.env v = (do
      let ov ← holding [v] (eval (.Name x p) X.env)
      let iv ← holding [v, ov] (eval b X.env)
      standAt ps
      holding [v, ov, iv] (setItem ov iv v)
      release [v, ov, iv] []) := by intro _; rfl)
    (hs : swapsWithSole [.Subscript (.Name x p) b ps] e pos.line X.env = pure false := by rfl) (hw : swappedStores [.Subscript (.Name x p) b ps] e X.env = pure none := by rfl)
    (h1 : (assignEach [.Subscript (.Name x p) b ps] X.env).map (·.2) = [assign (.Subscript (.Name x p) b ps) X.env] := by rfl) : SV X (.Assign [.Subscript (.Name x p) b ps] e pos) (setIx i f g) := fun B =>
  PS.weak (ps_asg (he B) (pg_sub (pe_var (i := i) hN hv hd hcd) (hb B) set_list ha) hs hw h1) fun Dn σ H ⟨G, s, o, R, h, k⟩ => by
    unfold setIx at h
    cases q : f s with
    | none => rw [q] at h; cases h
    | some r =>
      rw [q] at h
      obtain ⟨d, s1⟩ := r
      simp only [Option.bind_some] at h
      cases q0 : ownO i s1 with
      | none => rw [q0] at h; cases h
      | some ds0 =>
        rw [q0] at h
        simp only [Option.bind_some] at h
        cases q1 : g s1 with
        | none => rw [q1] at h; cases h
        | some r1 =>
          rw [q1] at h
          obtain ⟨y, s2⟩ := r1
          simp only [Option.bind_some] at h
          cases y with
          | int j =>
            simp only at h
            cases q2 : ownO i s2 with
            | none => rw [q2] at h; cases h
            | some ds2 =>
              rw [q2] at h
              simp only [Option.bind_some] at h
              cases q3 : ixN ds2.length j with
              | none => rw [q3] at h; cases h
              | some m =>
                rw [q3] at h
                simp only [Option.bind_some] at h
                cases q4 : putO i (ds2.set m d) s2 with
                | none => rw [q4] at h; cases h
                | some s3 =>
                  rw [q4] at h; cases h
                  refine ⟨G, s, d, s1, R, q, fun v G1 H1 a1 R1 r1 => ?_⟩
                  obtain ⟨p0, vs0, e0, _⟩ := ownO_ok R1 q0
                  refine ⟨_, e0, G1, s1, .int j, s2, R1, q1, fun w G2 H2 a2 R2 r2 => ?_⟩
                  cases r2
                  obtain ⟨p1, vs1, e1, c1, c2, c3⟩ := ownO_ok R2 q2
                  rw [e0] at e1; cases e1
                  refine ⟨p0, vs1, j, m, rfl, rfl, c1, by rw [← c2.length]; exact q3, ?_⟩
                  exact k σ G2 _ (a1.trans a2) (putO_upd R2 q4 e0 c3 (RepL.set (r1.mono a2) m c2))
          | _ => cases h
/-- x.append(e) -/
def appE (i : Nat) (f : S → Option (D × S)) (s : S) : Option (D × S) := (ownO i s).bind fun _ => (f s).bind fun r => (ownO i r.2).bind fun ds => if szOk (ds.length + 1) = true then (putO i (ds ++ [r.1]) r.2).map fun s' => (.non, s') else none
theorem ev_append (i : Nat) {x : Str} {p apos : Pos} (he : EV X e f) (hN : X.N[i]? = some x := by rfl) (hv : Vis X.env.scope x := by first | exact Or.inl rfl | exact Or.inr (Or.inl rfl) | exact Or.inr (Or.inr rfl)) (hd : (x == ("__debug__" : Str)) = false := by decide)
    (hcd : (x == ("__classdict__" : Str)) = false := by decide)
    (hbase : attributeBase (.Name x p) "append" X.env (eval (.Name x p) X.env) = eval (.Name x p) X.env := by rfl)
    (hfew : ((backTo pos (starEach [e] X.env)).all (fun x => !x.1) && (backToKw pos (keywordEach [] X.env)).all (fun x => x.1.isSome)
      && decide ([e].length + ([] : List Keyword).length + (if ([] : List Keyword).isEmpty then 0 else 1) < 30)) = true := by rfl)
    (hline : (apos.endLine == pos.line) = true := by rfl) (hs : starEach [e] X.env = (false, eval e X.env) :: starEach [] X.env := by rfl) : EV X (.Call (.Attribute (.Name x p) "append" apos) [e] [] pos) (appE i f) := fun B =>
  PE.weak (pe_bm PySem.F.plainAttrs_list PySem.F.slot_list_append PySem.F.type_list_append mt_append (pe_var (i := i) hN hv hd hcd) (pa_cons (he B) pa_nil hs) hbase hfew hline hs rfl) fun σ H Q ⟨G, s, d, s', R, h, k⟩ => by
    unfold appE at h
    cases q0 : ownO i s with
    | none => rw [q0] at h; cases h
    | some ds0 =>
      rw [q0] at h
      simp only [Option.bind_some] at h
      cases q : f s with
      | none => rw [q] at h; cases h
      | some r =>
        rw [q] at h
        obtain ⟨y, s1⟩ := r
        simp only [Option.bind_some] at h
        cases q1 : ownO i s1 with
        | none => rw [q1] at h; cases h
        | some ds1 =>
          rw [q1] at h
          simp only [Option.bind_some] at h
          split at h
          · rename_i hz
            cases q2 : putO i (ds1 ++ [y]) s1 with
            | none => rw [q2] at h; cases h
            | some s2 =>
              rw [q2] at h; cases h
              obtain ⟨p0, vs0, e0, c0, _⟩ := ownO_ok R q0
              refine ⟨_, e0, Or.inl ⟨rfl, _, SqL.of c0⟩, G, s, y, s1, R, q, fun v G1 H1 a1 R1 r1 => ?_⟩
              obtain ⟨p1, vs1, e1, c1, c2, c3⟩ := ownO_ok R1 q1
              rw [e0] at e1; cases e1
              have := szOk_le hz
              refine ⟨p0, vs1, v, rfl, rfl, c1, by rw [← c2.length]; omega, ?_⟩
              exact k _ G1 _ a1 (putO_upd R1 q2 e0 c3 (c2.app (.cons r1 .nil))) .non
          · cases h
/-! slices without a step -/
end
end DL
namespace DL
open PySem L2
def intsD : List D → Option (List Int)
  | [] => some []
  | .int i :: r => (intsD r).map fun l => i :: l
  | _ :: _ => none
def boolsD : List D → Option (List Bool)
  | [] => some []
  | .bl i :: r => (boolsD r).map fun l => i :: l
  | _ :: _ => none
theorem intsD_eq : ∀ {ds : List D} {ns : List Int}, intsD ds = some ns → ds = ns.map .int
  | [], ns, h => by cases h; rfl
  | .int i :: r, ns, h => by
    simp only [intsD] at h
    cases q : intsD r with
    | none => rw [q] at h; cases h
    | some l => rw [q] at h; cases h; rw [intsD_eq q]; rfl
  | .non :: r, _, h => by cases h
  | .bl _ :: r, _, h => by cases h
  | .str _ :: r, _, h => by cases h
  | .ty _ :: r, _, h => by cases h
  | .obj _ :: r, _, h => by cases h
  | .tup _ :: r, _, h => by cases h
  | .lst _ :: r, _, h => by cases h
  | .fl _ :: r, _, h => by cases h
theorem boolsD_eq : ∀ {ds : List D} {ns : List Bool}, boolsD ds = some ns → ds = ns.map .bl
  | [], ns, h => by cases h; rfl
  | .bl i :: r, ns, h => by
    simp only [boolsD] at h
    cases q : boolsD r with
    | none => rw [q] at h; cases h
    | some l => rw [q] at h; cases h; rw [boolsD_eq q]; rfl
  | .non :: r, _, h => by cases h
  | .int _ :: r, _, h => by cases h
  | .str _ :: r, _, h => by cases h
  | .ty _ :: r, _, h => by cases h
  | .obj _ :: r, _, h => by cases h
  | .tup _ :: r, _, h => by cases h
  | .lst _ :: r, _, h => by cases h
  | .fl _ :: r, _, h => by cases h
theorem intsD_map : ∀ ns : List Int, intsD (ns.map .int) = some ns
  | [] => rfl
  | n :: r => by simp [intsD, intsD_map r]
theorem boolsD_map : ∀ ns : List Bool, boolsD (ns.map .bl) = some ns
  | [] => rfl
  | n :: r => by simp [boolsD, boolsD_map r]
section
variable {K : PySem.W.Frag}
/-! one argument -/
def one (φ : D → Option D) : List D → Option D
  | [d] => φ d
  | _ => none
def lenD : List D → Option D := one fun d => (seqD d).map fun ds => .int ds.length
def lenL (ds : List D) : Option D := some (.int ds.length)
theorem d_len : CallD K (fun xs H Q => ∃ p ys, xs = [.ref p] ∧ (SqL K H p ys ∨ SqT K H p ys) ∧ Q (.int ys.length) H) lenD := fun B G H σ s ds d vs Q R r hd k => by
  unfold lenD one at hd
  split at hd
  · rename_i x
    dsimp only at hd
    cases r with | cons r1 r2 => cases r2; cases q : seqD x with
      | none => rw [q] at hd; cases hd
      | some es =>
        rw [q] at hd; cases hd
        obtain ⟨p, vs, rfl, z, rl⟩ := seq_ok R.sub r1 q
        exact ⟨p, vs, rfl, z.symm, by rw [← rl.length]; exact k _ G H (Same.refl G) R (.int _)⟩
  · cases hd
theorem l_len : CallL K (fun xs H Q => ∃ p ys, xs = [.ref p] ∧ (SqL K H p ys ∨ SqT K H p ys) ∧ Q (.int ys.length) H) lenL := fun B G H σ s ds d p vs Q R l r hd k => by
  cases hd
  exact ⟨p, vs, rfl, .inl l, by rw [← r.length]; exact k _ G H (Same.refl G) R (.int _)⟩
def tupD : List D → Option D := one fun d => match d with
  | .tup ds => some (.tup ds)
  | .lst ds => some (.tup ds)
  | .fl ds => some (.tup ds)
  | _ => none
def tupL (ds : List D) : Option D := some (.tup ds)
def rTupOf (K : PySem.W.Frag) : List V → Hp → VK → Prop := fun xs H Q => ∃ p ys, xs = [.ref p] ∧ ((SqL K H p ys ∧ ∀ l, H l = none → Q (.ref l) (upd H l (.tup ys))) ∨ (SqT K H p ys ∧ Q (.ref p) H))
theorem l_tup : CallL K (rTupOf K) tupL := fun B G H σ s ds d p vs Q R l r hd k => by
  cases hd
  refine ⟨p, vs, rfl, .inl ⟨l, fun q hq => ?_⟩⟩
  have hg := R.gnone hq
  exact k _ (upd G q (.tup vs)) _ (same_upd hg) (R.allocG hq) (.tup (SqT.of upd_same) (r.mono (same_upd hg)))
theorem d_tup : CallD K (rTupOf K) tupD := fun B G H σ s ds d vs Q R r hd k => by
  unfold tupD one at hd
  split at hd
  · cases r with | cons r1 r2 => cases r2; cases r1 <;> first | (cases hd; done) | skip
                                 · rename_i a ws es h1 h2
                                   cases hd
                                   exact ⟨a, ws, rfl, .inr ⟨same_t R.sub h1, k _ G H (Same.refl G) R (.tup h1 h2)⟩⟩
                                 · rename_i a ws es h1 h2
                                   exact l_tup B G H σ s es d a ws Q R (SqL.of (R.sub _ _ h1)) h2 hd k
                                 · rename_i a ws es h1 h2
                                   exact l_tup B G H σ s es d a ws Q R (R.sub.seq h1) h2 hd k
  · cases hd
def oneL (φ : D → Option (List D)) : List D → Option (List D)
  | [d] => φ d
  | _ => none
def listD : List D → Option (List D) := oneL seqD
def listL (ds : List D) : Option (List D) := some ds
def rListOf (K : PySem.W.Frag) : List V → Hp → VK → Prop := fun xs H Q => ∃ p ys, xs = [.ref p] ∧ (SqL K H p ys ∨ SqT K H p ys) ∧ ∀ l, H l = none → Q (.ref l) (upd H l (.lst ys))
theorem d_list : CallO K (rListOf K) listD := fun G H ds es vs Q hs r hd k => by
  unfold listD oneL at hd
  split at hd
  · cases r with | cons r1 r2 =>
      cases r2
      obtain ⟨p, ws, rfl, z, rl⟩ := seq_ok hs r1 hd
      exact ⟨p, ws, rfl, z.symm, fun l hl => k l ws hl rl⟩
  · cases hd
theorem l_list : CallLO K (rListOf K) listL := fun G H ds es p vs Q hs l r hd k => by
  cases hd
  exact ⟨p, vs, rfl, .inl l, fun q hq => k q vs hq r⟩
/-- int(x), abs(x) -/
def intD : List D → Option D := one fun d => match d with
  | .int i => some (.int i)
  | .bl b => some (.int (if b then 1 else 0))
  | _ => none
theorem d_int : CallD K (fun xs H Q => (∃ i, xs = [.int i] ∧ Q (.int i) H) ∨ ∃ k, xs = [.bl k] ∧ Q (.int (if k then 1 else 0)) H) intD := fun B G H σ s ds d vs Q R r hd k => by
  unfold intD one at hd
  split at hd
  · cases r with | cons r1 r2 =>
      cases r2
      cases r1 <;> first | (cases hd; done) | skip
      · cases hd; exact .inr ⟨_, rfl, k _ G H (Same.refl G) R (.int _)⟩
      · cases hd; exact .inl ⟨_, rfl, k _ G H (Same.refl G) R (.int _)⟩
  · cases hd
def absD : List D → Option D := one fun d => match d with
  | .int i => some (.int (if i < 0 then -i else i))
  | _ => none
theorem d_abs : CallD K (fun xs H Q => ∃ i, xs = [.int i] ∧ Q (.int (if i < 0 then -i else i)) H) absD := fun B G H σ s ds d vs Q R r hd k => by
  unfold absD one at hd
  split at hd
  · cases r with | cons r1 r2 =>
      cases r2
      cases r1 <;> first | (cases hd; done) | skip
      cases hd; exact ⟨_, rfl, k _ G H (Same.refl G) R (.int _)⟩
  · cases hd
/-- min, max of two ints -/
def max2D : List D → Option D
  | [.int i, .int j] => some (.int (if j > i then j else i))
  | _ => none
def min2D : List D → Option D
  | [.int i, .int j] => some (.int (if j < i then j else i))
  | _ => none
theorem d_max2 : CallD K (fun xs H Q => ∃ i j, xs = [.int i, .int j] ∧ Q (.int (if j > i then j else i)) H) max2D := fun B G H σ s ds d vs Q R r hd k => by
  unfold max2D at hd
  split at hd
  · cases hd
    cases r with | cons r1 r2 => cases r1; cases r2 with | cons r3 r4 => cases r3; cases r4; exact ⟨_, _, rfl, k _ G H (Same.refl G) R (.int _)⟩
  · cases hd
theorem d_min2 : CallD K (fun xs H Q => ∃ i j, xs = [.int i, .int j] ∧ Q (.int (if j < i then j else i)) H) min2D := fun B G H σ s ds d vs Q R r hd k => by
  unfold min2D at hd
  split at hd
  · cases hd
    cases r with | cons r1 r2 => cases r1; cases r2 with | cons r3 r4 => cases r3; cases r4; exact ⟨_, _, rfl, k _ G H (Same.refl G) R (.int _)⟩
  · cases hd
/-! of one list -/
def onL (φ : List D → Option D) : List D → Option D := one fun d => (asL d).bind φ
theorem d_onL {r : List V → Hp → VK → Prop} {φ : List D → Option D} (h : CallL K r φ) : CallD K r (onL φ) := fun B G H σ s ds d vs Q R rr hd k => by
  unfold onL one at hd
  split at hd
  · cases rr with | cons r1 r2 =>
      cases r2
      cases r1 <;> first | (cases hd; done) | skip
      · rename_i a ws es h1 h2
        exact h B G H σ s es d a ws Q R (SqL.of (R.sub _ _ h1)) h2 hd k
      · rename_i a ws es h1 h2
        exact h B G H σ s es d a ws Q R (R.sub.seq h1) h2 hd k
  · cases hd
def onLO (φ : List D → Option (List D)) : List D → Option (List D) := oneL fun d => (asL d).bind φ
theorem d_onLO {r : List V → Hp → VK → Prop} {φ : List D → Option (List D)} (h : CallLO K r φ) : CallO K r (onLO φ) := fun G H ds es vs Q hs rr hd k => by
  unfold onLO oneL at hd
  split at hd
  · cases rr with | cons r1 r2 =>
      cases r2
      cases r1 <;> first | (cases hd; done) | skip
      · rename_i a ws es' h1 h2
        exact h G H es' es a ws Q hs (SqL.of (hs _ _ h1)) h2 hd k
      · rename_i a ws es' h1 h2
        exact h G H es' es a ws Q hs (hs.seq h1) h2 hd k
  · cases hd
def sumL (ds : List D) : Option D := (intsD ds).map fun ns => .int ns.sum
theorem l_sum : CallL K (rSum K) sumL := fun B G H σ s ds d p vs Q R l r hd k => by
  unfold sumL at hd
  cases q : intsD ds with
  | none => rw [q] at hd; cases hd
  | some ns =>
    rw [q] at hd; cases hd
    have e := intsD_eq q
    subst e
    have e2 := r.of_ints
    subst e2
    exact ⟨p, ns, rfl, l, k _ G H (Same.refl G) R (.int _)⟩
def allL (ds : List D) : Option D := (boolsD ds).map fun ns => .bl (ns.all id)
def anyL (ds : List D) : Option D := (boolsD ds).map fun ns => .bl (ns.any id)
theorem l_all : CallL K (rAll K) allL := fun B G H σ s ds d p vs Q R l r hd k => by
  unfold allL at hd
  cases q : boolsD ds with
  | none => rw [q] at hd; cases hd
  | some ns =>
    rw [q] at hd; cases hd
    have e := boolsD_eq q
    subst e
    have e2 := r.of_bools
    subst e2
    exact ⟨p, ns, rfl, l, k _ G H (Same.refl G) R (.bl _)⟩
theorem l_any : CallL K (rAny K) anyL := fun B G H σ s ds d p vs Q R l r hd k => by
  unfold anyL at hd
  cases q : boolsD ds with
  | none => rw [q] at hd; cases hd
  | some ns =>
    rw [q] at hd; cases hd
    have e := boolsD_eq q
    subst e
    have e2 := r.of_bools
    subst e2
    exact ⟨p, ns, rfl, l, k _ G H (Same.refl G) R (.bl _)⟩
/-- the greatest, the least of ints -/
def maxI : List Int → Int
  | [] => 0
  | [a] => a
  | a :: r => let m := maxI r; if a ≤ m then m else a
def minI : List Int → Int
  | [] => 0
  | [a] => a
  | a :: r => let m := minI r; if m ≤ a then m else a
theorem maxI_spec : ∀ {ns : List Int} {m : Int}, 0 < ns.length → m ∈ ns → (∀ y, y ∈ ns → y ≤ m) → m = maxI ns
  | [], _, h, _, _ => by simp at h
  | [a], m, _, h, _ => by simp at h; simp [maxI, h]
  | a :: b :: r, m, _, h, hm => by
    have hb : ∀ (r : List Int) (b : Int), maxI (b :: r) ∈ b :: r ∧ ∀ y, y ∈ b :: r → y ≤ maxI (b :: r) := by
      intro r
      induction r with
      | nil => intro b; simp [maxI]
      | cons c r ih =>
        intro b
        obtain ⟨i1, i2⟩ := ih c
        simp only [maxI]
        split
        · rename_i hc
          refine ⟨List.mem_cons_of_mem _ i1, fun y hy => ?_⟩
          rcases List.mem_cons.mp hy with e | e
          · subst e; exact hc
          · exact i2 y e
        · rename_i hc
          refine ⟨List.mem_cons_self, fun y hy => ?_⟩
          rcases List.mem_cons.mp hy with e | e
          · subst e; omega
          · have := i2 y e; omega
    have hb := hb r b
    have h1 := hm a List.mem_cons_self
    have h2 := hm _ (List.mem_cons_of_mem _ hb.1)
    show m = (if a ≤ maxI (b :: r) then maxI (b :: r) else a)
    rcases List.mem_cons.mp h with e | e
    · subst e; split <;> omega
    · have := hb.2 m e; split <;> omega
theorem minI_spec : ∀ {ns : List Int} {m : Int}, 0 < ns.length → m ∈ ns → (∀ y, y ∈ ns → m ≤ y) → m = minI ns
  | [], _, h, _, _ => by simp at h
  | [a], m, _, h, _ => by simp at h; simp [minI, h]
  | a :: b :: r, m, _, h, hm => by
    have hb : ∀ (r : List Int) (b : Int), minI (b :: r) ∈ b :: r ∧ ∀ y, y ∈ b :: r → minI (b :: r) ≤ y := by
      intro r
      induction r with
      | nil => intro b; simp [minI]
      | cons c r ih =>
        intro b
        obtain ⟨i1, i2⟩ := ih c
        simp only [minI]
        split
        · rename_i hc
          refine ⟨List.mem_cons_of_mem _ i1, fun y hy => ?_⟩
          rcases List.mem_cons.mp hy with e | e
          · subst e; exact hc
          · exact i2 y e
        · rename_i hc
          refine ⟨List.mem_cons_self, fun y hy => ?_⟩
          rcases List.mem_cons.mp hy with e | e
          · subst e; omega
          · have := i2 y e; omega
    have hb := hb r b
    have h1 := hm a List.mem_cons_self
    have h2 := hm _ (List.mem_cons_of_mem _ hb.1)
    show m = (if minI (b :: r) ≤ a then minI (b :: r) else a)
    rcases List.mem_cons.mp h with e | e
    · subst e; split <;> omega
    · have := hb.2 m e; split <;> omega
def maxL (ds : List D) : Option D := (intsD ds).bind fun ns => if ns = [] then none else some (.int (maxI ns))
def minL (ds : List D) : Option D := (intsD ds).bind fun ns => if ns = [] then none else some (.int (minI ns))
theorem l_max : CallL K (rMax K) maxL := fun B G H σ s ds d p vs Q R l r hd k => by
  unfold maxL at hd
  cases q : intsD ds with
  | none => rw [q] at hd; cases hd
  | some ns =>
    rw [q] at hd
    simp only [Option.bind_some] at hd
    split at hd
    · cases hd
    · rename_i hn
      cases hd
      have e := intsD_eq q
      subst e
      have e2 := r.of_ints
      subst e2
      have hl : 0 < ns.length := List.length_pos_iff.mpr hn
      exact ⟨p, ns, rfl, l, hl, fun m h1 h2 => by rw [maxI_spec hl h1 h2]; exact k _ G H (Same.refl G) R (.int _)⟩
theorem l_min : CallL K (rMin K) minL := fun B G H σ s ds d p vs Q R l r hd k => by
  unfold minL at hd
  cases q : intsD ds with
  | none => rw [q] at hd; cases hd
  | some ns =>
    rw [q] at hd
    simp only [Option.bind_some] at hd
    split at hd
    · cases hd
    · rename_i hn
      cases hd
      have e := intsD_eq q
      subst e
      have e2 := r.of_ints
      subst e2
      have hl : 0 < ns.length := List.length_pos_iff.mpr hn
      exact ⟨p, ns, rfl, l, hl, fun m h1 h2 => by rw [minI_spec hl h1 h2]; exact k _ G H (Same.refl G) R (.int _)⟩
/-! sorting ints -/
def insI (a : Int) : List Int → List Int
  | [] => [a]
  | b :: r => if a ≤ b then a :: b :: r else b :: insI a r
def sortI : List Int → List Int
  | [] => []
  | a :: r => insI a (sortI r)
theorem insI_perm (a : Int) : ∀ l, (insI a l).Perm (a :: l)
  | [] => .refl _
  | b :: r => by
    unfold insI
    split
    · exact .refl _
    · exact ((insI_perm a r).cons b).trans (.swap a b r)
theorem sortI_perm : ∀ l, (sortI l).Perm l
  | [] => .refl _
  | a :: r => (insI_perm a _).trans ((sortI_perm r).cons a)
theorem insI_sorted (a : Int) : ∀ {l}, l.Pairwise (· ≤ ·) → (insI a l).Pairwise (· ≤ ·)
  | [], _ => by simp [insI]
  | b :: r, h => by
    unfold insI
    rw [List.pairwise_cons] at h
    split
    · rename_i hab
      refine List.pairwise_cons.mpr ⟨fun y hy => ?_, List.pairwise_cons.mpr h⟩
      rcases List.mem_cons.mp hy with e | e
      · subst e; exact hab
      · exact Int.le_trans hab (h.1 y e)
    · rename_i hab
      refine List.pairwise_cons.mpr ⟨fun y hy => ?_, insI_sorted a h.2⟩
      have := (insI_perm a r).mem_iff.mp hy
      rcases List.mem_cons.mp this with e | e
      · subst e; omega
      · exact h.1 y e
theorem sortI_sorted : ∀ l, (sortI l).Pairwise (· ≤ ·)
  | [] => .nil
  | a :: r => insI_sorted a (sortI_sorted r)
theorem sortI_uniq {l l' : List Int} (p : l'.Perm l) (s : l'.Pairwise (· ≤ ·)) : l' = sortI l :=
  (p.trans (sortI_perm l).symm).eq_of_pairwise (le := (· ≤ ·)) (fun a b _ _ h1 h2 => Int.le_antisymm h1 h2) s (sortI_sorted l)
def sortedL (ds : List D) : Option (List D) := (intsD ds).map fun ns => (sortI ns).map .int
theorem l_sorted : CallLO K (rSortedI K) sortedL := fun G H ds es p vs Q hs l r hd k => by
  unfold sortedL at hd
  cases q : intsD ds with
  | none => rw [q] at hd; cases hd
  | some ns =>
    rw [q] at hd; cases hd
    have e := intsD_eq q
    subst e
    have e2 := r.of_ints
    subst e2
    refine ⟨p, ns, rfl, l, fun ns' q' h1 h2 h3 => ?_⟩
    have e := sortI_uniq h1 h2
    subst e
    exact k q' _ h3 (RepL.ints _)
end
end DL
namespace DL
open PySem L2
section
variable {K : PySem.W.Frag} {X : Cx} {a b e o : Expr} {es : List Expr} {f g k : S → Option (D × S)} {pos p p2 p3 : Pos}
/-! slices -/
def cutD (xs : List D) (lo hi : Option Int) : List D := (xs.drop (HT.sIx xs.length 0 lo)).take (HT.sIx xs.length xs.length hi - HT.sIx xs.length 0 lo)
theorem cut_rep {G : Hp} {ds : List D} {vs : List V} (r : RepL K G ds vs) (lo hi : Option Int) : RepL K G (cutD ds lo hi) (cutV vs lo hi) := by
  unfold cutD cutV
  rw [r.length]
  exact (r.drop _).take _
def slD (x : D) (lo hi : Option Int) : Option D := match x with
  | .tup ds => some (.tup (cutD ds lo hi))
  | .lst ds => some (.lst (cutD ds lo hi))
  | .fl ds => some (.lst (cutD ds lo hi))
  | _ => none
def rSlAL (K : PySem.W.Frag) : V → Option Int → Option Int → Hp → VK → Prop := fun x lo hi H Q => rSlA K x lo hi H Q ∨ rSlL K x lo hi H Q
theorem sl_all : L2.SlR X (rSlAL X.K) := L2.SlR.or sl_tupA sl_list
theorem d_sl {B : Bs} {G H : Hp} {σ : L2.St} {s : S} {x d : D} {v : V} {lo hi : Option Int} {Q : VK} (R : Rp K B G H σ s) (rx : Rep K G x v) (hd : slD x lo hi = some d) (kk : ∀ u G' H', Same G G' → Rp K B G' H' σ s → Rep K G' d u → Q u H') : rSlAL K v lo hi H Q := by
  cases rx <;> first | (cases hd; done) | skip
  · rename_i a vs ds h1 h2
    cases hd
    refine .inl ⟨a, vs, rfl, same_t R.sub h1, fun ⟨z1, z2⟩ => ?_, fun _ p hp => ?_⟩
    · have e : cutD ds lo hi = ds := by
        unfold cutD
        rw [h2.length, z1, z2, List.drop_zero, Nat.sub_zero, ← h2.length, List.take_length]
      rw [e] at kk
      exact kk _ G H (Same.refl G) R (.tup h1 h2)
    · have hg := R.gnone hp
      exact kk _ (upd G p (.tup (cutV vs lo hi))) _ (same_upd hg) (R.allocG hp) (.tup (SqT.of upd_same) ((cut_rep h2 lo hi).mono (same_upd hg)))
  · rename_i a vs ds h1 h2
    cases hd
    refine .inr ⟨a, vs, rfl, SqL.of (R.sub _ _ h1), fun p hp => ?_⟩
    have hg := R.gnone hp
    exact kk _ (upd G p (.lst (cutV vs lo hi))) _ (same_upd hg) (R.allocG hp) (.lst upd_same ((cut_rep h2 lo hi).mono (same_upd hg)))
  · rename_i a vs ds h1 h2
    cases hd
    refine .inr ⟨a, vs, rfl, R.sub.seq h1, fun p hp => ?_⟩
    have hg := R.gnone hp
    exact kk _ (upd G p (.lst (cutV vs lo hi))) _ (same_upd hg) (R.allocG hp) (.lst upd_same ((cut_rep h2 lo hi).mono (same_upd hg)))
def slLo (f g : S → Option (D × S)) (s : S) : Option (D × S) := (f s).bind fun r => (g r.2).bind fun q => match q.1 with | .int i => (slD r.1 (some i) none).map fun d => (d, q.2) | _ => none
def slHi (f g : S → Option (D × S)) (s : S) : Option (D × S) := (f s).bind fun r => (g r.2).bind fun q => match q.1 with | .int i => (slD r.1 none (some i)).map fun d => (d, q.2) | _ => none
def slBo (f g k : S → Option (D × S)) (s : S) : Option (D × S) := (f s).bind fun r => (g r.2).bind fun q => match q.1 with | .int i => ((k q.2).bind fun w => match w.1 with | .int j => (slD r.1 (some i) (some j)).map fun d => (d, w.2) | _ => none) | _ => none
theorem ev_slLo (ha : EV X a f) (hb : EV X b g) : EV X (.Subscript a (.Slice (some b) none none p2) pos) (slLo f g) := fun B =>
  PE.weak (pe_slice sl_all (ha B) (po_some (hb B)) po_none) fun σ H Q ⟨G, s, d, s', R, h, kk⟩ => by
    unfold slLo at h
    cases q : f s with
    | none => rw [q] at h; cases h
    | some r =>
      rw [q] at h
      obtain ⟨x, s1⟩ := r
      simp only [Option.bind_some] at h
      cases q1 : g s1 with
      | none => rw [q1] at h; cases h
      | some r1 =>
        rw [q1] at h
        obtain ⟨y, s2⟩ := r1
        simp only [Option.bind_some] at h
        cases y with
        | int i =>
          simp only at h
          cases q2 : slD x (some i) none with
          | none => rw [q2] at h; cases h
          | some z =>
            rw [q2] at h; cases h
            exact ⟨G, s, x, s1, R, q, fun v G1 H1 a1 R1 r1 => ⟨G1, s1, .int i, s', R1, q1, fun w G2 H2 a2 R2 r2 => by
              cases r2; exact ⟨i, rfl, d_sl R2 (r1.mono a2) q2 fun u G3 H3 a3 R3 r3 => kk u G3 H3 ((a1.trans a2).trans a3) R3 r3⟩⟩⟩
        | _ => cases h
theorem ev_slHi (ha : EV X a f) (hb : EV X b g) : EV X (.Subscript a (.Slice none (some b) none p2) pos) (slHi f g) := fun B =>
  PE.weak (pe_slice sl_all (ha B) po_none (po_some (hb B))) fun σ H Q ⟨G, s, d, s', R, h, kk⟩ => by
    unfold slHi at h
    cases q : f s with
    | none => rw [q] at h; cases h
    | some r =>
      rw [q] at h
      obtain ⟨x, s1⟩ := r
      simp only [Option.bind_some] at h
      cases q1 : g s1 with
      | none => rw [q1] at h; cases h
      | some r1 =>
        rw [q1] at h
        obtain ⟨y, s2⟩ := r1
        simp only [Option.bind_some] at h
        cases y with
        | int i =>
          simp only at h
          cases q2 : slD x none (some i) with
          | none => rw [q2] at h; cases h
          | some z =>
            rw [q2] at h; cases h
            exact ⟨G, s, x, s1, R, q, fun v G1 H1 a1 R1 r1 => ⟨G1, s1, .int i, s', R1, q1, fun w G2 H2 a2 R2 r2 => by
              cases r2; exact ⟨i, rfl, d_sl R2 (r1.mono a2) q2 fun u G3 H3 a3 R3 r3 => kk u G3 H3 ((a1.trans a2).trans a3) R3 r3⟩⟩⟩
        | _ => cases h
/-! x[::-1] of a list -/
def revL (f : S → Option (List D × S)) (s : S) : Option (List D × S) := (f s).map fun r => (r.1.reverse, r.2)
theorem eo_rev {f : S → Option (List D × S)} {n : Nat} {q1 q2 : Pos} (ha : EB X a f) : EO X (.Subscript a (.Slice none none (some (.UnaryOp .USub (.Constant (.int 1) n q1) q2)) p3) pos) (revL f) := fun B =>
  PE.weak (pe_revL (ha B)) fun σ H Q ⟨G, s, d, s', R, h, kk⟩ => by
    unfold revL at h
    cases q : f s with
    | none => rw [q] at h; cases h
    | some r =>
      rw [q] at h
      obtain ⟨x, s1⟩ := r
      cases h
      refine ⟨G, s, x, _, R, q, fun p vs G1 H1 a1 R1 l1 r1 => ⟨p, vs, rfl, l1, fun q' hq => ?_⟩⟩
      obtain ⟨R2, F2⟩ := fresh_new (vs := vs.reverse) R1 hq
      exact kk q' _ G1 _ a1 R2 F2 r1.rev
/-! sorted(x, reverse=True) -/
def sortR (ns : List Int) : List Int := (sortI ns).reverse
theorem sortR_uniq {l l' : List Int} (p : l'.Perm l) (s : l'.Pairwise (· ≥ ·)) : l' = sortR l := by
  have e : l'.reverse = sortI l := sortI_uniq ((List.reverse_perm l').trans p) (List.pairwise_reverse.mpr s)
  unfold sortR
  rw [← e, List.reverse_reverse]
def sortRo (f : S → Option (List D × S)) (s : S) : Option (List D × S) := (f s).bind fun r => (intsD r.1).map fun ns => ((sortR ns).map .int, r.2)
theorem eo_sortR {f : S → Option (List D × S)} {kp q1 : Pos} {n : Nat} (ha : EB X a f) (hm : X.mg "sorted" = none) (hg : Gl X "sorted" := by rfl)
    (hs : starEach [a] X.env = (false, eval a X.env) :: starEach [] X.env := by rfl)
    (hall : (backToKw pos (keywordEach [⟨some "reverse", .Constant (.bool true) n q1, kp⟩] X.env)).all (·.1.isSome) = true := by rfl) (hnone : (backToKw pos (keywordEach [⟨some "reverse", .Constant (.bool true) n q1, kp⟩] X.env)).any (·.1.isNone) = false := by rfl)
    (hks : (backToKw pos (keywordEach [⟨some "reverse", .Constant (.bool true) n q1, kp⟩] X.env)).filterMap (·.1) = [Str.ofString "reverse"] := by rfl) :
    EO X (.Call (.Name "sorted" p) [a] [⟨some "reverse", .Constant (.bool true) n q1, kp⟩] pos) (sortRo f) := fun B =>
  PE.weak (pe_callBK cr_sortedRev hg hm (by decide +kernel) (pa_cons (ha B) pa_nil hs) (pk_cons pe_bl pk_nil) (by decide) (by decide) (by rw [hs]; rfl) (by rw [hs]; rfl) hall hnone hks) fun σ H Q ⟨G, s, d, s', R, h, kk⟩ => by
    unfold sortRo at h
    cases q : f s with
    | none => rw [q] at h; cases h
    | some r =>
      rw [q] at h
      obtain ⟨x, s1⟩ := r
      simp only [Option.bind_some] at h
      cases q1 : intsD x with
      | none => rw [q1] at h; cases h
      | some ns =>
        rw [q1] at h; cases h
        have e := intsD_eq q1
        subst e
        refine ⟨G, s, _, _, R, q, fun p vs G1 H1 a1 R1 l1 r1 => ?_⟩
        have e2 := r1.of_ints
        subst e2
        refine ⟨p, ns, rfl, rfl, l1, fun ns' q' h1 h2 h3 => ?_⟩
        obtain ⟨R2, F2⟩ := fresh_new (vs := ns'.map V.int) R1 h3
        have e := sortR_uniq h1 h2
        subst e
        exact kk q' _ G1 _ a1 R2 F2 (RepL.ints _)
/-! isinstance -/
def tyN : D → String
  | .non => "NoneType" | .bl _ => "bool" | .int _ => "int" | .str _ => "str" | .tup _ => "tuple" | .lst _ => "list" | .fl _ => "list" | .ty _ => "type" | .obj _ => "object"
def isOb : D → Bool
  | .ty _ => false | .obj _ => false | _ => true
theorem ty_ok {G H : Hp} {d : D} {v : V} (hs : Same G H) (r : Rep K G d v) (h : isOb d = true) : TyX K H v (.type (tyN d)) := by
  cases r with
  | non => exact .base .non
  | bl b => exact .base (.bl b)
  | int i => exact .base (.int i)
  | str x => exact .base (.str x)
  | ty n => cases h
  | obj a => cases h
  | tup h1 h2 =>
    rcases h1 with (h1 | ⟨o, h1⟩) | ⟨o, its, n, h1, h2, _⟩
    · exact .base (.tup (hs _ _ h1))
    · exact .fTuple (hs _ _ h1)
    · exact .kTuple h1 h2
  | lst h1 h2 => exact .base (.lst (hs _ _ h1))
  | fl h1 h2 =>
    rcases h1 with (h1 | ⟨o, h1⟩) | ⟨o, its, n, h1, h2, _⟩
    · exact .base (.lst (hs _ _ h1))
    · exact .base (.frz (hs _ _ h1))
    · exact .kList h1 h2
/-- is a value of the built-in type c -/
def isTy (d : D) (c : String) : Option Bool := if isOb d = true then kitB (tyN d) c else none
def isiD : List D → Option D
  | [d, .ty c] => (isTy d c).map .bl
  | _ => none
theorem d_isi : CallD K (rIsi K) isiD := fun B G H σ s ds d vs Q R rr hd k => by
  unfold isiD at hd
  split at hd
  · rename_i x c
    unfold isTy at hd
    split at hd
    · rename_i ho
      cases q : kitB (tyN x) c with
      | none => rw [q] at hd; cases hd
      | some b =>
        rw [q] at hd; cases hd
        cases rr with | cons r1 r2 => cases r2 with | cons r3 r4 =>
          cases r3; cases r4
          exact ⟨_, _, _, _, b, rfl, .ty c, ty_ok R.sub r1 ho, kit_ty q, k _ G H (Same.refl G) R (.bl b)⟩
    · cases hd
  · cases hd
/-! range(a, b, -1) and the like -/
def rngC (lo c : Int) (n : Nat) : List D := (List.range n).map fun i => .int (lo + (i : Nat) * c)
theorem walk_c (G : Hp) (lo c : Int) (n : Nat) : Walk K G (Itc lo c n) (rngC lo c n) := fun B G' H' σ' s' a1 R' => by
  have hlen : (rngC lo c n).length = n := by simp [rngC]
  refine ⟨by rw [hlen]; exact Nat.le_refl _, fun i d hd => ?_⟩
  have hg : i < n ∧ d = .int (lo + (i : Nat) * c) := by
    unfold rngC at hd
    rw [List.getElem?_map] at hd
    cases q : (List.range n)[i]? with
    | none => rw [q] at hd; cases hd
    | some j =>
      rw [q] at hd; cases hd
      obtain ⟨h1, h2⟩ := List.getElem?_eq_some_iff.mp q
      simp only [List.length_range] at h1
      simp only [List.getElem_range] at h2
      subst h2
      exact ⟨h1, rfl⟩
  obtain ⟨h1, rfl⟩ := hg
  refine ⟨h1, fun x H'' y => ?_⟩
  obtain ⟨e, y⟩ := y
  subst e; subst y
  exact ⟨G', Same.refl _, R', .int _, fun p h1 h2 => absurd h1 h2⟩
def itRd (t : S → Option (List D × S)) (s : S) : Option (List D × S) := (t s).bind fun r => match r.1 with
  | [.int i, .int j, .int c] => if (decide (c = -1) && r62 i && r62 j) = true then some (rngC i (-1) (i - j).toNat, r.2) else none
  | _ => none
theorem iv_rangeD {tg : Expr} {c : Expr} {t : S → Option (List D × S)} (ha : AV X [a, b, c] t) (hm : X.mg "range" = none) (hg : Gl X "range" := by rfl) (hs : starEach [a, b, c] X.env = (false, eval a X.env) :: starEach [b, c] X.env := by rfl) (hpl : (backTo pos (starEach [b, c] X.env)).any (·.1) = false := by rfl) :
    IV X tg (.Call (.Name "range" p) [a, b, c] [] pos) (itRd t) := fun B =>
  PI.weak (pi_range3 hg hm (ha B) hs hpl) fun σ H R ⟨G, s, ds, s', R0, hf, k⟩ => by
    unfold itRd at hf
    cases q : t s with
    | none => rw [q] at hf; cases hf
    | some r =>
      rw [q] at hf
      obtain ⟨es, s1⟩ := r
      simp only [Option.bind_some] at hf
      split at hf
      · rename_i i j c
        split at hf
        · rename_i hz
          rw [Bool.and_eq_true, Bool.and_eq_true] at hz
          have hc := of_decide_eq_true hz.1.1
          subst hc
          cases hf
          refine ⟨G, s, _, s', R0, q, fun vs G' H' a R' r' => ?_⟩
          cases r' with | cons r1 r2 => cases r1; cases r2 with | cons r3 r4 => cases r3; cases r4 with | cons r5 r6 => cases r5; cases r6; exact ⟨i, j, -1, _, rfl, RgC.neg (r62_ok hz.1.2).1 (r62_ok hz.1.2).2 (r62_ok hz.2).1 (r62_ok hz.2).2, k _ G' H' a R' (walk_c G' i (-1) _)⟩
        · cases hf
      · cases hf
/-! enumerate(list), zip -/
def enumL (ds : List D) : List D := (List.range ds.length).zipWith (fun i d => .tup [.int (i : Nat), d]) ds
theorem enumL_get {ds : List D} {i : Nat} {d : D} (h : (enumL ds)[i]? = some d) : ∃ x, ds[i]? = some x ∧ d = .tup [.int (i : Nat), x] := by
  unfold enumL at h
  rw [List.getElem?_zipWith] at h
  cases q : ds[i]? with
  | none => rw [q] at h; split at h <;> first | (cases h; done) | (rename_i q2; cases q2)
  | some x =>
    rw [q] at h
    have hl : i < ds.length := (List.getElem?_eq_some_iff.mp q).1
    rw [List.getElem?_eq_getElem (by simpa using hl)] at h
    simp only [List.getElem_range] at h
    cases h
    exact ⟨x, rfl, rfl⟩
theorem enumL_len (ds : List D) : (enumL ds).length = ds.length := by simp [enumL]
theorem walk_e {G : Hp} {a : Addr} {vs : List V} {ds : List D} (h : SqL K G a vs) (r : RepL K G ds vs) : Walk K G (Ite K a) (enumL ds) := fun B G' H' σ' s' a1 R' => by
  have q : SqL K H' a vs := R'.sub.seq (a1.seq h)
  refine ⟨⟨vs, q, by rw [enumL_len, r.length]; exact Nat.le_refl _⟩, fun i d hd => ?_⟩
  obtain ⟨x, hx, rfl⟩ := enumL_get hd
  obtain ⟨v, hv, rv⟩ := r.getD hx
  refine ⟨⟨vs, v, q, hv⟩, fun y H'' hy => ?_⟩
  obtain ⟨T, w, rfl, hT, rfl, hw⟩ := hy
  have := hw vs q
  rw [hv] at this; cases this
  have hg := R'.gnone hT
  exact ⟨upd G' T (.tup [.int (i : Nat), v]), same_upd hg, R'.allocG hT, .tup (SqT.of upd_same) (.cons (.int _) (.cons ((rv.mono a1).mono (same_upd hg)) .nil)), fun p h1 h2 h3 => by
    by_cases e : p = T
    · subst e; rw [upd_same] at h3; cases h3
    · rw [upd_ne e] at h2; exact h2 h1⟩
def itE (f : S → Option (D × S)) (s : S) : Option (List D × S) := (f s).bind fun r => (asL r.1).map fun ds => (enumL ds, r.2)
theorem iv_enumL {elts : List Expr} {kk : Nat} {tpos : Pos} (ha : EV X e f) (hm : X.mg "enumerate" = none) (hg : Gl X "enumerate" := by rfl) (hs : starEach [e] X.env = [(false, eval e X.env)] := by rfl) : IV X (.Tuple elts kk tpos) (.Call (.Name "enumerate" p) [e] [] pos) (itE f) := fun B =>
  PI.weak (pi_enum hg hm (pa_cons (ha B) pa_nil hs) hs) fun σ H R ⟨G, s, ds, s', R0, hf, k⟩ => by
    unfold itE at hf
    cases q : f s with
    | none => rw [q] at hf; cases hf
    | some r =>
      rw [q] at hf
      obtain ⟨d, s1⟩ := r
      simp only [Option.bind_some] at hf
      refine ⟨G, s, d, s1, R0, q, fun v G' H' a R' r' => ?_⟩
      cases r' <;> first | (cases hf; done) | skip
      · rename_i p vs es h1 h2
        cases hf
        exact ⟨p, vs, rfl, SqL.of (R'.sub _ _ h1), k _ G' H' a R' (walk_e (SqL.of h1) h2)⟩
      · rename_i p vs es h1 h2
        cases hf
        exact ⟨p, vs, rfl, R'.sub.seq h1, k _ G' H' a R' (walk_e h1 h2)⟩
end
end DL
/-! ### t[::-1] of a tuple -/
namespace DLT
open PySem PySem.Spec PyProof.Rows HT
section
variable {prog : Program} {w : World} {A : Around} {E : Value → Shared → Prop} {s : Shared}
theorem sliceApplied_rev {sl : Addr} {vl vu vs : Value} {n : Nat} {Q : Int × Int × Nat → Shared → Prop} (hs : s.heap.IsSliceOf sl vl vu vs) (pl : IsPart vl none) (pu : IsPart vu none) (ps : IsPart vs (some (-1)))
    (h : Q ((n : Int) - 1, -1, n) s) : wpAny (model prog w) A (Builtin.Slice.sliceApplied (.ref sl) (pure (n : Int))) Q E s := by
  obtain ⟨os, hos, hcs, hds⟩ := id hs
  unfold Builtin.Slice.sliceApplied Builtin.Slice.sliceFields
  refine wpAny_bind (wpAny_bind (wpAny_field hos hds (x := vl) rfl (wpAny_bind (wpAny_field hos hds (x := vu) rfl (wpAny_bind (wpAny_field hos hds (x := vs) rfl (wpAny_pure ?_)))))))
  refine wpAny_bind (slicePart_ ps ?_)
  show wpAny _ _ (if ((-1 : Int) == 0) = true then _ else _) _ _ s
  rw [if_neg (by decide)]
  refine wpAny_bind (slicePart_ pl (wpAny_bind (slicePart_ pu (wpAny_bind (wpAny_pure ?_)))))
  show wpAny _ _ (match Builtin.Slice.sliceAdjust none none (-1) (n : Int) with | (lo, hi) => pure (lo, (-1 : Int), Builtin.Slice.slicePlaces lo hi (-1))) _ _ s
  have e : Builtin.Slice.sliceAdjust none none (-1) (n : Int) = ((n : Int) - 1, -1) := by
    unfold Builtin.Slice.sliceAdjust
    simp
  rw [e]
  show wpAny _ _ (pure ((n : Int) - 1, (-1 : Int), Builtin.Slice.slicePlaces ((n : Int) - 1) (-1) (-1))) _ _ s
  have e2 : Builtin.Slice.slicePlaces ((n : Int) - 1) (-1) (-1) = n := by
    unfold Builtin.Slice.slicePlaces
    simp
    try omega
  rw [e2]
  exact wpAny_pure h
theorem fm_some {α β : Type} {f : α → Option β} {g : α → β} : ∀ (l : List α), (∀ m ∈ l, f m = some (g m)) → l.filterMap f = l.map g
  | [], _ => rfl
  | a :: r, h => by
    rw [List.filterMap_cons, h a List.mem_cons_self, List.map_cons]
    simp only
    rw [fm_some r fun m hm => h m (List.mem_cons_of_mem _ hm)]
theorem pick_rev (xs : Array Value) : ((List.range xs.size).filterMap fun (m : Nat) => xs[((xs.size : Int) - 1 + (m : Int) * (-1)).toNat]?).toArray = xs.toList.reverse.toArray := by
  have e : (List.range xs.size).filterMap (fun (m : Nat) => xs[((xs.size : Int) - 1 + (m : Int) * (-1)).toNat]?) = xs.toList.reverse := by
    apply List.ext_getElem?
    intro i
    have h1 : (List.range xs.size).filterMap (fun (m : Nat) => xs[((xs.size : Int) - 1 + (m : Int) * (-1)).toNat]?) = (List.range xs.size).map (fun m => xs.getD (xs.size - 1 - m) Value.none) := by
      refine fm_some _ fun m hm => ?_
      have hm' : m < xs.size := List.mem_range.mp hm
      have e1 : ((xs.size : Int) - 1 + (m : Int) * (-1)).toNat = xs.size - 1 - m := by omega
      rw [e1]
      have h2 : xs.size - 1 - m < xs.size := by omega
      simp [Array.getD, h2]
    rw [h1, List.getElem?_map]
    by_cases hi : i < xs.size
    · rw [List.getElem?_range hi, List.getElem?_reverse (by simpa using hi)]
      have h2 : xs.size - 1 - i < xs.size := by omega
      simp [Array.getD, h2]
    · rw [List.getElem?_eq_none (by simpa using Nat.le_of_not_lt hi), List.getElem?_eq_none (by simpa using Nat.le_of_not_lt hi)]
      rfl
  rw [e]
theorem getItem_tuple_rev {t sl : Addr} {items : Array Value} {vl vu vs : Value} {Q : Value → Shared → Prop} (ht : IsTup s.heap t items) (hs : s.heap.IsSliceOf sl vl vu vs) (pl : IsPart vl none) (pu : IsPart vu none) (ps : IsPart vs (some (-1)))
    (h : Q (.ref s.heap.objs.size) { s with heap := s.heap.push { cls := .type "tuple", data := .seq items.toList.reverse.toArray } })
    (hsz : items.size ≤ sizeLine) : wpAny (model prog w) A (getItem (.ref t) (.ref sl)) Q E s := by
  have htake : sizeOk (.seq items.toList.reverse.toArray) := by
    show items.toList.reverse.toArray.size ≤ sizeLine
    rw [List.size_toArray, List.length_reverse, Array.length_toList]
    exact hsz
  obtain ⟨os, hos, hcs, hds⟩ := id hs
  have hTs : s.TypeIs (.ref sl) "slice" := ⟨os, hos, hcs⟩
  unfold getItem
  try with_reducible refine wpAny_holding ?_
  first | refine wpAny_bind (wpAny_pure ?_) | skip
  refine wpAny_bind (wpAny_sequenceKey ht.typeIs (by decide) ?_)
  refine wpAny_bind (wpAny_callSpecial?_slot (name := Str.ofString "__getitem__") ht.typeIs PyProof.Rows.slot_tuple_getitem
    (wpAny_call_entry PyProof.Rows.slot_tuple_getitem ht.typeIs entry_tuple_getitem ?_ (args_tuple_getitem _ _)))
  show wpAny _ _ (Builtin.Tuple.tupleItemsOf (.ref t) >>= _) _ _ s
  refine wpAny_bind (tupleItemsOf_ ht ?_)
  refine wpAny_bind (wpAny_typeOf hTs ?_)
  rw [if_pos (by decide)]
  refine wpAny_bind (sliceApplied_rev hs pl pu ps ?_)
  have hno : ¬ ((((items.size : Int) - 1) == 0 && (-1 : Int) == 1 && items.size == items.size) = true) := by
    intro q
    rw [Bool.and_eq_true, Bool.and_eq_true] at q
    exact absurd q.1.2 (by decide)
  show wpAny _ _ (if (((items.size : Int) - 1) == 0 && (-1 : Int) == 1 && items.size == items.size) = true then _ else _) _ _ s
  rw [if_neg hno, pick_rev]
  first
    | exact wpAny_bind (m := Builtin.Tuple.tupleExact _) (wpAny_newObj_type (wpAny_pure ⟨_, rfl, wpAny_pure h⟩) htake)
    | exact wpAny_bind (m := Builtin.Tuple.tupleExact _) (wpAny_newObj_type (wpAny_bind (wpAny_pure (wpAny_pure ⟨_, rfl, wpAny_pure h⟩))) htake)
    | exact wpAny_bind (wpAny_bind (m := Builtin.Tuple.tupleExact _) (wpAny_newObj_type (wpAny_pure (wpAny_pure ⟨_, rfl, wpAny_pure h⟩)) htake))
    | exact wpAny_bind (wpAny_bind (m := Builtin.Tuple.tupleExact _) (wpAny_newObj_type (wpAny_pure ⟨_, rfl, wpAny_pure h⟩) htake))
/-! ### sum(t) of a tuple of ints -/
theorem sumT_raw {l : Addr} {its : List Value} {ns : List Int} {Q : Value → Shared → Prop} (hh : A.handled = none) (hl : s.heap.IsTuple l its.toArray) (hi : IntsAre its ns)
    (h : ∀ h' tk t', (∀ b o, s.heap.get? b = some o → h'.get? b = some o) → Q (.int ns.sum t') { s with heap := h', toks := tk }) : wpAny (model prog w) A (call (.builtin "sum") [.ref l]) Q E s := by
  obtain ⟨xs, e⟩ := hi.allInts.items
  have hn : numsOf (intItems xs).toList = ns := by rw [← e]; exact hi.numsOf
  rw [nums_intItems] at hn
  rw [e] at hl
  refine PySem.W.ktm_sumG hh hl fun h' tk t' hk => ?_
  have := h h' tk t' hk
  rw [preSum_eq, List.take_of_length_le (by simp), hn]; exact this
/-! ### enumerate(t) of a tuple -/
theorem meets_enumerate_newT (l : Addr) (items : Array Value) (n : Nat) (dct : Option Addr) (sl : Array (Option Value)) :
    Meets (Builtin.«enumerate.__new__» ⟨[.type "enumerate", .ref l], []⟩) (fun _ R s => s.heap.get? l = some { cls := .type "tuple", dict := dct, data := .seq items n, slots := sl } ∧
      R (.ok (.ret (.ref (s.heap.push { cls := .type "tuple_iterator", data := .fields #[.ref l, .int 0 0] }).objs.size)))
        { s with heap := (s.heap.push { cls := .type "tuple_iterator", data := .fields #[.ref l, .int 0 0] }).push { cls := .type "enumerate", data := .fields #[.none, .bool false, .ref s.heap.objs.size, rawInt 0, .none, .none] } }) :=
  .of_wp fun prog w A R s h => by
    obtain ⟨hp, g, d, tk, os⟩ := s; obtain ⟨hl, h⟩ := h
    have hsub := sub_enumerate
    have hL : Heap.IsTuple (Shared.heap ⟨hp, g, d, tk, os⟩) l items := ⟨_, hl, rfl, n, rfl⟩
    wp_walk using AutoSeq1.wpAny_loadPart' hl
    refine wpAny_stack_any fun st => wpAny_pure ?_
    split
    · rename_i c _ _ _ _ _
      cases (c == Value.type "enumerate")
      · wp_walk using AutoSeq1.wpAny_loadPart' hl, wpAny_pyIter_tuple hL
        exact ⟨_, rfl, h⟩
      · wp_walk using AutoSeq1.wpAny_loadPart' hl, wpAny_pyIter_tuple hL
        exact ⟨_, rfl, h⟩
    · wp_walk using AutoSeq1.wpAny_loadPart' hl, wpAny_pyIter_tuple hL
      exact ⟨_, rfl, h⟩
theorem call_enumerate_tuple {l : Addr} {items : Array Value} {Q : Value → Shared → Prop} (hL : s.heap.IsTuple l items)
    (h : ∀ h', IsEnum h' (s.heap.objs.size + 1) s.heap.objs.size 0 .none → h'.IsTupleIter s.heap.objs.size l 0 → h'.objs.size = s.heap.objs.size + 2 →
      (∀ b o, s.heap.get? b = some o → h'.get? b = some o) → Q (.ref (s.heap.objs.size + 1)) { s with heap := h' }) :
    wpAny (model prog w) A (call (.type "enumerate") [.ref l]) Q E s := by
  obtain ⟨⟨c, dct, dt, sl⟩, hl, hc, n, hd⟩ := hL
  replace hc : c = .type "tuple" := hc
  replace hd : dt = .seq items n := hd
  subst hc hd
  refine callType_new F.called_enumerate (by decide) (F.typeCall_enumerate_1 _) (F.newCall_enumerate_1 _) (fun obj => F.args_object_init_2 obj _) F.entry_enumerate_new
    (meets_enumerate_newT l items n dct sl) ⟨hl, ?_⟩
  have hz : (s.heap.push { cls := .type "tuple_iterator", data := .fields #[.ref l, .int 0 0] }).objs.size = s.heap.objs.size + 1 := Heap.size_push ..
  show _ ∧ _
  rw [hz]
  have he : IsEnum ((s.heap.push { cls := .type "tuple_iterator", data := .fields #[.ref l, .int 0 0] }).push
      { cls := .type "enumerate", data := .fields #[.none, .bool false, .ref s.heap.objs.size, rawInt 0, .none, .none] }) (s.heap.objs.size + 1) s.heap.objs.size 0 .none := by
    have := Heap.get?_push_size (s.heap.push { cls := .type "tuple_iterator", data := .fields #[.ref l, .int 0 0] })
      (o := { cls := .type "enumerate", data := .fields #[.none, .bool false, .ref s.heap.objs.size, rawInt 0, .none, .none] }) rfl
    rw [hz] at this; exact this
  refine ⟨⟨_, he, rfl⟩, h _ he ⟨_, Heap.get?_push_of_some _ (Heap.get?_push_size _ rfl), rfl, rfl⟩ (by rw [Heap.size_push, hz]) fun b o x => Heap.get?_push_of_some _ (Heap.get?_push_of_some _ x)⟩
theorem enumT_end {e it l : Addr} {i : Nat} {items : Array Value} {old : Value} {Q : Option Value → Shared → Prop} (hh : A.handled = none)
    (he : IsEnum s.heap e it i old) (hit : s.heap.IsTupleIter it l i) (hl : s.heap.IsTuple l items) (hx : items[i]? = none)
    (hQ : ∀ h', Heap.ExtBut it s.heap h' → Q none { s with heap := h' }) : wpAny (model prog w) A (pyNext (.ref e)) Q E s := by
  have hT : s.TypeIs (.ref e) "enumerate" := ⟨_, he, rfl⟩
  unfold pyNext
  refine wpAny_bind (wpAny_attempt (wpAny_callSpecial?_slot (name := Str.ofString "__next__") hT F.slot_enumerate_next
    (wpAny_call_entry F.slot_enumerate_next hT F.entry_enumerate_next ?_ (F.args_enumerate_next_1 _))))
  show wpAny _ _ (field (.ref e) 2 >>= _) _ _ _
  refine wpAny_bind (wpAny_field he rfl (x := .ref it) rfl ?_)
  refine wpAny_bind (wpAny_nextOf_tuple_end hh hit hl hx fun h' x he' hx' => ?_)
  obtain ⟨o, ho, hc⟩ := hx'
  refine wpAny_bind (wpAny_isInstance (T := "StopIteration") (b := true) ⟨o, ho, hc⟩ isSubtype_stop ?_)
  exact wpAny_pure (hQ _ he')
end
end DLT
namespace DLT
open PySem PySem.Spec PyProof.Rows L2
def IteT (K : PySem.W.Frag) (a : Addr) : It :=
  ⟨fun i H => ∃ (xs : List V) (x : V), SqT K H a xs ∧ xs[i]? = some x, fun i H v H' => ∃ T x, v = .ref T ∧ H T = none ∧ H' = upd H T (.tup [.int (i : Nat), x]) ∧ ∀ xs, SqT K H a xs → xs[i]? = some x, fun i H => ∃ xs : List V, SqT K H a xs ∧ xs.length ≤ i⟩
theorem turn_enumT {P : Program} {w : World} {K : PySem.W.Frag} {elts : List Expr} {kk : Nat} {tpos : Pos} (a e it : Addr) :
    Turn P w K (.Tuple elts kk tpos) (IteT K a) [e, it] e (fun i h => (∃ old, IsEnum h e it ((i : Nat) : Int) old) ∧ h.IsTupleIter it a i ∧ e ≠ it ∧ a ≠ it ∧ a ≠ e) where
  mem := by simp
  obj := fun i h st b hb => by
    obtain ⟨⟨old, he⟩, ⟨o, ho, hc, hd⟩, _⟩ := st
    have e' : b = e ∨ b = it := by simpa using hb
    rcases e' with z | z
    · rw [z]; exact ⟨_, he, fun v q => nomatch q⟩
    · rw [z]; exact ⟨o, ho, fun v q => by rw [hd] at q; cases q⟩
  keep := fun i h h' st k => let ⟨⟨old, he⟩, hi, hne⟩ := st; ⟨⟨old, k e (by simp) _ he⟩, hi.at fun o q => k it (by simp) o q, hne⟩
  item := by
    intro X hP hw hK hc i pins s σ H E I hf st hg
    subst hP hw hK
    obtain ⟨⟨old, he⟩, hit, hne, hai, hae⟩ := st
    obtain ⟨xs, x, hq, hx⟩ := hg
    obtain ⟨its, rv, p, hz⟩ := I.tuple hq
    obtain ⟨u, hu, ru⟩ := rv.get hx
    have hil : i < its.length := by
      have := (List.getElem?_eq_some_iff.mp hu).1
      exact this
    have hel : e < s.heap.objs.size := Heap.lt_size he
    have hitl : it < s.heap.objs.size := by obtain ⟨_, q, _⟩ := hit; exact Heap.lt_size q
    have DD := Draws.tuple (prog := X.prog) (w := X.w) (A := X.A.in1) (I.ok.hd hc) it a hai its.toArray
    refine wpAny_pyNext_enum_itemD DD he ⟨hit, show s.heap.IsTuple a its.toArray from p⟩ (by simpa using hil) hne (by simp; exact ⟨hne, fun z => hae z.symm⟩) fun y h' tk hy ho hit' hT hsz hk => ?_
    have hyu : y = u := by
      have e1 : its[i]? = some y := by simpa using hy
      rw [hu] at e1; cases e1; rfl
    subst hyu
    refine ⟨_, rfl, wpAny_letOwnedTupleGo_enum (s := { s with heap := h', toks := tk + 1 }) ho fun h'' he' sb => ?_⟩
    have hT2 : h''.get? s.heap.objs.size = some { cls := .type "tuple", data := .seq #[.int i tk, y] } := (sb.2 _ (Nat.ne_of_gt hel)).trans hT
    have new : ObjOk X.prog X.w (upd H s.heap.objs.size (.tup [.int (i : Nat), x])) h'' s.heap.objs.size (.tup [.int (i : Nat), x]) :=
      ⟨by show 2 ≤ sizeLine; decide, [.int i tk, y], .cons ⟨_, rfl⟩ (.cons ru .nil), ⟨_, hT2, rfl, _, rfl⟩⟩
    have I1 : Inv X pins σ (upd H s.heap.objs.size (.tup [.int (i : Nat), x])) { s with heap := h'', toks := tk + 1 } :=
      I.turnedNew (ch := [e, it]) (fun b ob hb q => (sb.2 b (fun z => hb (by simp [z]))).trans (hk b ob (fun z => hb (by simp [z])) (fun z => hb (by simp [z])) q)) hf (Nat.le_refl _) new
    refine ⟨.ref s.heap.objs.size, _, I1, rfl, ⟨_, x, rfl, I.hok.fresh (Nat.le_refl _), rfl, fun ys hy => by rw [I.tuple_inj hy hq]; exact hx⟩, ⟨⟨y, ?_⟩, hit'.1.at fun o q => (sb.2 it (Ne.symm hne)).trans q, hne, hai, hae⟩, fun b hb => ?_⟩
    · have e1 : ((i + 1 : Nat) : Int) = (i : Int) + 1 := by omega
      rw [e1]; exact he'
    · have hb' : b < s.heap.objs.size := by
        have e' : b = e ∨ b = it := by simpa using hb
        rcases e' with z | z
        · rw [z]; exact hel
        · rw [z]; exact hitl
      rw [upd_ne (Nat.ne_of_lt hb')]
      exact (hf b hb).1
  done := by
    intro X hP hw hK hc i pins s σ H E I hf st hg
    subst hP hw hK
    obtain ⟨⟨old, he⟩, hit, hne, hai, hae⟩ := st
    obtain ⟨xs, hq, hx⟩ := hg
    obtain ⟨its, rv, p, hz⟩ := I.tuple hq
    obtain ⟨f0, f1, f2, f3, f4, f5⟩ := hf it (by simp)
    have hl := rv.length
    have DD := Draws.tuple (prog := X.prog) (w := X.w) (A := X.A.in1) (I.ok.hd hc) it a hai its.toArray
    exact enumT_end (I.ok.hd hc) he hit (show s.heap.IsTuple a its.toArray from p) (by simp; omega) fun h' eb => ⟨rfl, I.turned (t' := s.toks) (fun b o hb q => eb b o hb q) f0 f1 f3 f4 f5⟩
  self := fun A i s Q E st h => let ⟨⟨_, he⟩, _⟩ := st; wpAny_pyIter_enum he h
def iEnumA (K : PySem.W.Frag) (ta : TA) : TI := fun σ H R => ta σ H fun vs H1 => ∃ a xs, vs = [.ref a] ∧ ((SqL K H1 a xs ∧ R (Ite K a) H1) ∨ (SqT K H1 a xs ∧ R (IteT K a) H1))
theorem pi_enumA {X : Cx} {e : Expr} {ta : TA} {p pos tpos : Pos} {elts : List Expr} {kk : Nat} (hg : Gl X "enumerate") (hm : X.mg "enumerate" = none) (ha : PA X [e] ta) (hs : starEach [e] X.env = [(false, eval e X.env)] := by rfl) :
    PI X (.Tuple elts kk tpos) (.Call (.Name "enumerate" p) [e] [] pos) (iEnumA X.K ta) := by
  refine ⟨fun pins s σ H R I h => ?_⟩
  refine Call_ (ld_blt I hg hm boot_enumerate (PyProof.Rows.callWith_type1 (thn (ha.run pos pins s σ H _ I h) fun us s1 ⟨vs, H1, I1, r1, q1⟩ => ?_) hs rfl))
  obtain ⟨a, xs, ex, q1⟩ := q1
  subst ex
  cases r1 with
  | cons r rr =>
    cases rr
    cases r
    have fr : ∀ b, b ∈ [s1.heap.objs.size + 1, s1.heap.objs.size] → FpOk X pins H1 b := fun b hb => by
      have e' : b = s1.heap.objs.size + 1 ∨ b = s1.heap.objs.size := by simpa using hb
      have hle : s1.heap.objs.size ≤ b := by
        rcases e' with z | z
        · rw [z]; exact Nat.le_add_right _ _
        · rw [z]; exact Nat.le_refl _
      exact I1.fpOk hle (I1.hok.fresh hle)
    rcases q1 with ⟨hq, q⟩ | ⟨hq, q⟩
    · obtain ⟨its, rv, p', hz⟩ := I1.list hq
      refine call_enumerate_list p'.isList fun h' he hit hsz hk => wpAny_pyIter_enum he ?_
      have I2 : Inv X pins σ H1 { s1 with heap := h' } := I1.kept (t' := s1.toks) hk
      exact ⟨s1.heap.objs.size + 1, [s1.heap.objs.size + 1, s1.heap.objs.size], _, _, H1, rfl, I2, turn_enum a (s1.heap.objs.size + 1) s1.heap.objs.size, ⟨⟨.none, he⟩, hit, Nat.succ_ne_self _⟩, fr, q⟩
    · obtain ⟨its, rv, p', hz⟩ := I1.tuple hq
      obtain ⟨o1, ho1, _⟩ := id p'
      have hal : a < s1.heap.objs.size := Heap.lt_size ho1
      refine call_enumerate_tuple (show s1.heap.IsTuple a its.toArray from p') fun h' he hit hsz hk => wpAny_pyIter_enum he ?_
      have I2 : Inv X pins σ H1 { s1 with heap := h' } := I1.kept (t' := s1.toks) hk
      exact ⟨s1.heap.objs.size + 1, [s1.heap.objs.size + 1, s1.heap.objs.size], _, _, H1, rfl, I2, turn_enumT a (s1.heap.objs.size + 1) s1.heap.objs.size, ⟨⟨.none, he⟩, hit, Nat.succ_ne_self _, Nat.ne_of_lt hal, Nat.ne_of_lt (Nat.lt_succ_of_lt hal)⟩, fr, q⟩
def tRevT (K : PySem.W.Frag) (te : TE) : TE := fun σ H Q => te σ H fun x H1 => ∃ a xs, x = .ref a ∧ ((SqL K H1 a xs ∧ ∀ p, H1 p = none → Q (.ref p) (upd H1 p (.lst xs.reverse))) ∨ (SqT K H1 a xs ∧ ∀ p, H1 p = none → Q (.ref p) (upd H1 p (.tup xs.reverse))))
theorem pe_revA {X : Cx} {e : Expr} {te : TE} {k : Nat} {p1 p2 p3 pos : Pos} (he : PE X e te) : PE X (.Subscript e (.Slice none none (some (.UnaryOp .USub (.Constant (.int 1) k p1) p2)) p3) pos) (tRevT X.K te) := by
  refine ⟨fun pins s σ H Q I h => ?_⟩
  refine Subscript_ (thn (he.run pins s σ H _ I h) fun v s1 ⟨x, H1, I1, r1, q1⟩ => ?_)
  obtain ⟨a, xs, ex, q⟩ := q1
  subst ex
  cases r1
  have hst : PO X (some (.UnaryOp .USub (.Constant (.int 1) k p1) p2)) (tPart (tUn (rU fun i => .int (-i)) (tC (.int 1)))) := po_some (pe_un un_neg pe_int)
  refine wpAny_Slice (thn (po_none.run pins s1 σ H1 (fun o H2 => o = none ∧ H2 = H1) I1 ⟨rfl, rfl⟩) fun vl s2 ⟨l, H2, I2, pl, el, e2⟩ => ?_)
  subst el e2
  refine thn (po_none.run pins s2 σ H2 (fun o H3 => o = none ∧ H3 = H2) I2 ⟨rfl, rfl⟩) fun vu s3 ⟨u, H3, I3, pu, eu, e3⟩ => ?_
  subst eu e3
  refine thn (hst.run pins s3 σ H3 (fun o H4 => o = some (-1) ∧ H4 = H3) I3 ⟨1, rfl, -1, rfl, rfl, rfl⟩) fun vs s4 ⟨o, H4, I4, ps, eo, e4⟩ => ?_
  subst eo e4
  have I5 : Inv X pins σ H4 { s4 with heap := s4.heap.push { cls := .type "slice", data := .fields #[vl, vu, vs] } } := I4.kept (t' := s4.toks) fun b ob q => Heap.get?_push_of_some _ q
  rcases q with ⟨hx, q⟩ | ⟨hx, q⟩
  · obtain ⟨its, r, ht, hz⟩ := I5.list hx
    have hlen := r.length
    show wpAny (model X.prog X.w) X.A (subscriptTail e (.Slice none none (some (.UnaryOp .USub (.Constant (.int 1) k p1) p2)) p3) (.ref a) (.ref s4.heap.objs.size)) (EP X pins σ Q) X.xe { s4 with heap := s4.heap.push { cls := .type "slice", data := .fields #[vl, vu, vs] } }
    refine tail_any (ops := [.ref a, .ref s4.heap.objs.size]) ht.isList.typeIs (PySem.slot_list_getitem.lookup) ?_ (by with_unfolding_all rfl)
    refine wpAny_getItem_list_slice ht.isList (Heap.IsSliceOf.new _ vl vu vs) pl pu ps (by decide) ?_ (by rw [List.size_toArray]; omega)
    rw [PySem.W.krv_pick]
    refine ⟨.ref _, _, I5.laid (t' := s4.toks) (o := .lst xs.reverse) (fun b ob q => Heap.get?_push_of_some _ q) (Nat.le_refl _) ?_, rfl, q _ (I5.hok.fresh (Nat.le_refl _))⟩
    exact ⟨by rw [List.length_reverse]; exact hz, _, 0, r.reverse, Heap.get?_push_size _ rfl⟩
  · obtain ⟨its, r, ht, hz⟩ := I5.tuple hx
    have hlen := r.length
    show wpAny (model X.prog X.w) X.A (subscriptTail e (.Slice none none (some (.UnaryOp .USub (.Constant (.int 1) k p1) p2)) p3) (.ref a) (.ref s4.heap.objs.size)) (EP X pins σ Q) X.xe { s4 with heap := s4.heap.push { cls := .type "slice", data := .fields #[vl, vu, vs] } }
    refine tail_any (ops := [.ref a, .ref s4.heap.objs.size]) ht.typeIs (PyProof.Rows.slot_tuple_getitem.lookup) ?_ (by with_unfolding_all rfl)
    refine getItem_tuple_rev ht (Heap.IsSliceOf.new _ vl vu vs) pl pu ps ?_ (by rw [List.size_toArray]; omega)
    refine ⟨.ref _, _, I5.laid (t' := s4.toks) (o := .tup xs.reverse) (fun b ob q => Heap.get?_push_of_some _ q) (Nat.le_refl _) ?_, rfl, q _ (I5.hok.fresh (Nat.le_refl _))⟩
    exact ⟨by rw [List.length_reverse]; exact hz, its.reverse, r.reverse, ⟨_, Heap.get?_push_size _ rfl, rfl, _, rfl⟩⟩
/-- sum of a list, a tuple -/
def rSumA (K : PySem.W.Frag) : List V → Hp → VK → Prop := fun vs H Q => ∃ (a : Addr) (ns : List Int), vs = [V.ref a] ∧ (SqL K H a (ns.map V.int) ∨ SqT K H a (ns.map V.int)) ∧ Q (.int ns.sum) H
theorem cr_sumA {X : Cx} (hc : X.calm = true) : CallR X (.builtin "sum") (rSumA X.K) := by
  intro pins s σ H vs us Q I r h
  obtain ⟨a, ns, rfl, hs | hs, q⟩ := h
  · exact cr_sum hc pins s σ H _ us Q I r ⟨a, ns, rfl, hs, q⟩
  · obtain ⟨its, rv, hl, _⟩ := I.tuple hs
    rw [Vals.ref1 r]
    exact sumT_raw (I.ok.hd hc) (show s.heap.IsTuple a its.toArray from hl) rv.ints fun h' tk t' hk => ⟨.int _, H, I.kept hk, ⟨_, rfl⟩, q⟩
/-- f(k = v, ..), no place taken -/
theorem pe_callK0 {X : Cx} {CX : CXT} {k : Nat} {f : Addr} {fd : FuncData} {ps ks : List Str} {sp : Sp} {E : XK} {x : Str} {p pos : Pos} {kws : List Keyword} {tk : TA} {g : List Value → List Value → List Value} {gV : List V → List V → List V}
    (F : FnOk X.prog X.w X.K X.mg X.base CX k f fd ps sp) (hr : Room k X.A) (hg : Gl X x) (hm : X.mg x = some (.ref f)) (hk : PySem.W.keepIn X.K (.ref f) = true) (hb : KBinds X.K fd ps ks g gV) (hx : Passes CX X E)
    (hkw : PK X kws tk) (hall : (backToKw pos (keywordEach kws X.env)).all (·.1.isSome) = true := by rfl) (hks : (backToKw pos (keywordEach kws X.env)).filterMap (·.1) = ks := by rfl)
    (hdb : (x == ("__debug__" : Str)) = false := by decide)
    (hpl : ((backTo pos (starEach [] X.env)).any (·.1) || (backToKw pos (keywordEach kws X.env)).any (·.1.isNone)) = false := by rfl) :
    PE X (.Call (.Name x p) [] kws pos) (tCallK sp gV E tNil tk) := by
  refine ⟨fun pins s σ H Q I h => ?_⟩
  refine wpAny_Call_Name_kw (ld_glob I hg hm ?_ hdb)
  refine PySem.W.callWith_KW0 (h₀ := X.base) I.ok.mod.kin hk hall ?_ hpl
  refine thn (hkw.run pos pins s σ H _ I h) fun ws s2 ⟨zs, H2, I2, rz, q2⟩ => ⟨I2.kIn, ?_⟩
  rw [hks]
  exact run_fnk (us := []) (vs := []) F hr hb hx I2 .nil rz q2
end DLT
/-! ### sorted of tuples of ints, any number, any lengths from 1 on -/
namespace DLT
open PySem PySem.Spec PyProof.Rows L2
def IsTI (h : Heap) (v : Value) (ns : List Int) : Prop := ∃ a o its n, v = .ref a ∧ h.get? a = some o ∧ o.cls = .type "tuple" ∧ o.data = .seq its n ∧ IntsAre its.toList ns
theorem IsTI.keeps {h h' : Heap} {v : Value} {ns : List Int} (p : IsTI h v ns) (k : ∀ b o, h.get? b = some o → o.cls = .type "tuple" → h'.get? b = some o) : IsTI h' v ns := by
  obtain ⟨a, o, its, n, e, ho, hc, hd, hi⟩ := p
  exact ⟨a, o, its, n, e, k _ _ ho hc, hc, hd, hi⟩
section
variable {prog : Program} {w : World} {A : Around} {E : Value → Shared → Prop} {s : Shared}
theorem lex_run {b : Bool} {fin : Bool} {Q : Bool → Shared → Prop} : ∀ {xs ys : List Value} {ns ms : List Int} (i : Nat) (hx : IntsAre xs ns) (hy : IntsAre ys ms), fin = decide (xs.length < ys.length) → Q (HT.lexLt ns ms) s →
    PySem.W.KatLex prog w A b fin Q (xs.zip ys) i s
  | [], [], _, _, i, .nil, .nil, e, q => by
    rw [List.zip_nil_left]
    refine PySem.W.kat_nil ?_
    rw [e]; exact q
  | [], _ :: _, _, _, i, .nil, .cons _ _ _, e, q => by
    rw [List.zip_nil_left]
    refine PySem.W.kat_nil ?_
    rw [e]
    simpa [HT.lexLt] using q
  | _ :: _, [], _, _, i, .cons _ _ _, .nil, e, q => by
    rw [List.zip_nil_right]
    refine PySem.W.kat_nil ?_
    rw [e]
    simpa [HT.lexLt] using q
  | _ :: _, _ :: _, _, _, i, .cons x t hx, .cons y u hy, e, q => by
    rw [List.zip_cons_cons]
    refine PySem.W.kat_cons (SeqAt.EqAt.int_int x t y u prog w _ _ ?_)
    refine PySem.W.kat_go (fun e1 => ?_) (fun e1 => ?_)
    · have ex : x = y := by simpa using e1
      refine PySem.W.kat_yes (lex_run (i + 1) hx hy (by rw [e]; simp) ?_)
      rw [HT.lexLt_cons, if_pos ex] at q
      exact q
    · have ex : ¬ x = y := by simpa using e1
      rw [HT.lexLt_cons, if_neg ex] at q
      exact PySem.W.kat_no (TS.oneLt_ints _ q)
theorem ti_cmp {vs : List Value} {k : Value → List Int} (hp : ∀ v ∈ vs, IsTI s.heap v (k v)) : SrtO.Cmp prog w A s (tuples' true) (fun p => p.1 ∈ vs) (SrtO.lt2 fun v u => HT.lexLt (k v) (k u)) := by
  intro p q hm hm'
  have h1 := hp _ hm
  have h2 := hp _ hm'
  show wpAny (model prog w) A (keyLt' (tuples' true) p.1 q.1) (fun r s' => s' = s ∧ r = HT.lexLt (k p.1) (k q.1)) (fun _ _ => False) s
  generalize k p.1 = x at h1 ⊢
  generalize k q.1 = y at h2 ⊢
  obtain ⟨a, o, its, n, e, ho, hc, hd, hi⟩ := h1
  obtain ⟨a', o', its', n', e', ho', hc', hd', hi'⟩ := h2
  rw [e, e']
  exact PySem.W.kat_lt ho hd ho' hd' (lex_run 0 hi hi' (by simp) ⟨rfl, rfl⟩)
theorem ti_firsts {h : Heap} {k : Value → List Int} : ∀ {vs : List Value}, (∀ v ∈ vs, IsTI h v (k v)) → (∀ v ∈ vs, k v ≠ []) → ∃ fs : List Value, PySem.W.KatTups h vs fs ∧ fs.length = vs.length ∧ ∀ f ∈ fs, ∃ x t, f = Value.int x t
  | [], _, _ => ⟨[], PySem.W.KatTups.nil, rfl, fun _ hm => by simp at hm⟩
  | v :: vs, hp, hn => by
    obtain ⟨fs, h1, h2, h3⟩ := ti_firsts (vs := vs) (fun v' hm => hp v' (List.mem_cons_of_mem _ hm)) fun v' hm => hn v' (List.mem_cons_of_mem _ hm)
    have hne := hn v (List.mem_cons_self ..)
    obtain ⟨a, o, its, n, e, ho, hc, hd, hi⟩ := hp v (List.mem_cons_self ..)
    obtain ⟨y, ys, e2⟩ : ∃ y ys, its.toList = y :: ys := by
      cases q : its.toList with
      | nil =>
        rw [q] at hi
        have l := hi.length
        exact absurd (List.length_eq_zero_iff.mp (by simpa using l.symm)) hne
      | cons y ys => exact ⟨y, ys, rfl⟩
    obtain ⟨m, t, hy⟩ := hi.all y (by rw [e2]; exact List.mem_cons_self ..)
    subst e
    refine ⟨y :: fs, PySem.W.KatTups.cons ho hc hd ?_ h1, by simp [h2], fun f hm => ?_⟩
    · have z := congrArg (fun l : List Value => l[0]?) e2
      simpa using z
    · rcases List.mem_cons.mp hm with rfl | hm
      · exact ⟨m, t, hy⟩
      · exact h3 f hm
theorem ti_sortable {a : Addr} {vs : List Value} {k : Value → List Int} (h0 : 0 < vs.length) (hp : ∀ v ∈ vs, IsTI s.heap v (k v)) (hn : ∀ v ∈ vs, k v ≠ []) (ha : ∀ o, s.heap.get? a = some o → o.cls ≠ .type "tuple") :
    SrtO.SortableO prog w A s a vs fun v u => HT.lexLt (k v) (k u) := by
  intro h' keep
  have hp' : ∀ v ∈ vs, IsTI h' v (k v) := fun v hm => (hp v hm).keeps fun b o e c => keep b o (fun z => by subst z; exact ha o e c) e
  obtain ⟨fs, h1, h2, h3⟩ := ti_firsts hp' hn
  refine ⟨tuples' true, fun Q E hq => ?_, ti_cmp (s := { s with heap := h' }) hp'⟩
  refine PySem.W.kat_kind (s := { s with heap := h' }) (T := .type "int") h1 (by omega) (fun f hm => ?_) (by rfl) ?_
  · obtain ⟨x, t, rfl⟩ := h3 f hm
    exact PySem.W.Looks.now
  · have e : (Value.type "int" != Value.type "tuple") = true := by first | decide +kernel | rfl | decide
    rw [e]
    exact hq
end
/-- sorted(l) of tuples of ints, none empty: each with its ints -/
def rSortTI (K : PySem.W.Frag) : List V → Hp → VK → Prop := fun vs H Q => ∃ (a : Addr) (ps : List (List Int × V)), vs = [V.ref a] ∧ SqL K H a (ps.map (·.2)) ∧ (∀ q ∈ ps, (∃ t, q.2 = V.ref t ∧ SqT K H t (q.1.map V.int)) ∧ q.1 ≠ []) ∧
  ∀ (qs : List (List Int × V)) p, qs.Perm ps → qs.Pairwise (fun x y => HT.lexLt y.1 x.1 = false) → H p = none → Q (.ref p) (upd H p (.lst (qs.map (·.2))))
theorem vals_mem : ∀ {xs : List V} {us : List Value}, Vals xs us → ∀ u ∈ us, ∃ x ∈ xs, RelV x u
  | _, _, .nil, u, h => by simp at h
  | _, _, .cons r t, u, h => by
    rcases List.mem_cons.mp h with e | e
    · subst e; exact ⟨_, List.mem_cons_self, r⟩
    · obtain ⟨x, hx, rx⟩ := vals_mem t u e; exact ⟨x, List.mem_cons_of_mem _ hx, rx⟩
def toV (u : Value) : V := (absV u).getD .non
theorem toV_of {x : V} {u : Value} (r : RelV x u) : toV u = x := by unfold toV; rw [r.abs]; rfl
theorem vals_toV : ∀ {xs : List V} {us : List Value}, Vals xs us → us.map toV = xs
  | _, _, .nil => rfl
  | _, _, .cons r t => by rw [List.map_cons, toV_of r, vals_toV t]
theorem vals_sub {xs : List V} {us : List Value} (r : Vals xs us) : ∀ {out : List Value}, (∀ u ∈ out, u ∈ us) → Vals (out.map toV) out
  | [], _ => .nil
  | u :: out, h => by
    obtain ⟨x, _, rx⟩ := vals_mem r u (h u List.mem_cons_self)
    rw [List.map_cons]
    refine .cons ?_ (vals_sub r fun u hu => h u (List.mem_cons_of_mem _ hu))
    rw [toV_of rx]; exact rx
theorem ints_inj : ∀ {a b : List Int}, a.map V.int = b.map V.int → a = b
  | [], [], _ => rfl
  | [], _ :: _, h => by simp at h
  | _ :: _, [], h => by simp at h
  | x :: a, y :: b, h => by
    simp only [List.map_cons, List.cons.injEq, V.int.injEq] at h
    rw [h.1, ints_inj h.2]
theorem cr_sortTI {X : Cx} : CallR X (.builtin "sorted") (rSortTI X.K) := by
  intro pins s σ H vs us Q I r h
  obtain ⟨a, ps, rfl, hs, hk, q⟩ := h
  obtain ⟨its, rv, hl, hz⟩ := I.list hs
  rw [Vals.ref1 r]
  -- the ints by the value
  let k : V → List Int := fun v => ((ps.find? fun q => decide (q.2 = v)).map (·.1)).getD []
  have hkk : ∀ q ∈ ps, k q.2 = q.1 := fun q hq => by
    show ((ps.find? fun q' => decide (q'.2 = q.2)).map (·.1)).getD [] = q.1
    cases e : ps.find? fun q' => decide (q'.2 = q.2) with
    | none => exact absurd (List.find?_eq_none.mp e q hq) (by simp)
    | some q' =>
      have h1 := List.find?_some e
      have h2 := List.mem_of_find?_eq_some e
      have h3 : q'.2 = q.2 := of_decide_eq_true h1
      obtain ⟨⟨t, e1, s1⟩, _⟩ := hk q hq
      obtain ⟨⟨t', e2, s2⟩, _⟩ := hk q' h2
      rw [h3, e1] at e2
      cases e2
      exact ints_inj (I.tuple_inj s2 s1)
  have hti : ∀ v ∈ its, IsTI s.heap v (k (toV v)) ∧ k (toV v) ≠ [] := fun v hv => by
    obtain ⟨x, hx, rx⟩ := vals_mem rv v hv
    obtain ⟨q, hq, rfl⟩ := List.mem_map.mp hx
    obtain ⟨⟨t, e, ht⟩, hn⟩ := hk q hq
    rw [toV_of rx, hkk q hq]
    refine ⟨?_, hn⟩
    rw [e] at rx
    cases rx
    obtain ⟨its2, r2, ⟨o, ho, hc, n, hd⟩, _⟩ := I.tuple ht
    exact ⟨t, o, its2.toArray, n, rfl, ho, hc, hd, by simpa using r2.ints⟩
  refine SrtO.sorted_ord (NtL.swo_lexL fun v => k (toV v)) hl.isList (by rw [← rv.length]; exact hz) (fun h2 h₁ a' ha' kk => ?_) fun out h1 h2 => ?_
  · refine ti_sortable (s := { s with heap := h₁ }) (by omega) (fun v hm => (hti v hm).1.keeps fun b o e _ => (kk b o e).2) (fun v hm => (hti v hm).2) fun o e => ?_
    have e' : some o = some (seqObj "list" its.toArray 0) := e.symm.trans ha'
    cases e'
    intro c
    exact absurd (Value.type.inj c) (by decide)
  · have pm : out.Perm its := h2.perm
    obtain ⟨ep, he'⟩ := PyProof.Rows.sortedAll_at s.heap its out.toArray
    have ro : Vals (out.map toV) out := vals_sub rv fun u hu => pm.mem_iff.mp hu
    have px : (out.map toV).Perm (ps.map (·.2)) := by rw [← vals_toV rv]; exact pm.map toV
    have hlen : (out.map toV).length ≤ sizeLine := by rw [px.length_eq]; exact hz
    have e2 : ((out.map toV).map fun v => (k v, v)).map (·.2) = out.map toV := by rw [List.map_map]; exact List.map_id _
    have e3 : (ps.map (·.2)).map (fun v => (k v, v)) = ps := by
      rw [List.map_map]
      have : ps.map ((fun v => (k v, v)) ∘ fun x => x.2) = ps.map id := List.map_congr_left fun q hq => by
        show (k q.2, q.2) = q
        rw [hkk q hq]
      rw [this, List.map_id]
    have q' := q ((out.map toV).map fun v => (k v, v)) (s.heap.objs.size + 1) (by rw [← e3]; exact px.map _) (by rw [List.pairwise_map, List.pairwise_map]; exact h1) (I.hok.fresh (Nat.le_succ _))
    rw [e2] at q'
    exact ⟨.ref _, upd H (s.heap.objs.size + 1) (.lst (out.map toV)), I.laid (t' := s.toks) (fun _ _ => PyProof.Rows.sortedAll_old) (Nat.le_succ _) ⟨hlen, out, ep, ro, he'⟩, rfl, q'⟩
end DLT
namespace DLT
open PySem PySem.Spec PyProof.Rows L2
/-- ints, ascending, each once -/
def insU (a : Int) : List Int → List Int
  | [] => [a]
  | b :: r => if a < b then a :: b :: r else if a = b then b :: r else b :: insU a r
def sortU : List Int → List Int
  | [] => []
  | a :: r => insU a (sortU r)
theorem mem_insU {a k : Int} : ∀ {l : List Int}, k ∈ insU a l ↔ k = a ∨ k ∈ l
  | [] => by simp [insU]
  | b :: r => by
    unfold insU
    split
    · simp
    · split
      · rename_i h1 h2; subst h2; simp
      · rw [List.mem_cons, mem_insU, List.mem_cons]
        constructor
        · rintro (h | h | h)
          · exact .inr (.inl h)
          · exact .inl h
          · exact .inr (.inr h)
        · rintro (h | h | h)
          · exact .inr (.inl h)
          · exact .inl h
          · exact .inr (.inr h)
theorem mem_sortU {k : Int} : ∀ {l : List Int}, k ∈ sortU l ↔ k ∈ l
  | [] => by simp [sortU]
  | a :: r => by unfold sortU; rw [mem_insU, mem_sortU, List.mem_cons]
theorem insU_sorted (a : Int) : ∀ {l : List Int}, l.Pairwise (· < ·) → (insU a l).Pairwise (· < ·)
  | [], _ => by simp [insU]
  | b :: r, h => by
    rw [List.pairwise_cons] at h
    unfold insU
    split
    · rename_i hab
      refine List.pairwise_cons.mpr ⟨fun y hy => ?_, List.pairwise_cons.mpr h⟩
      rcases List.mem_cons.mp hy with e | e
      · subst e; exact hab
      · exact Int.lt_trans hab (h.1 y e)
    · split
      · exact List.pairwise_cons.mpr h
      · rename_i h1 h2
        refine List.pairwise_cons.mpr ⟨fun y hy => ?_, insU_sorted a h.2⟩
        rcases mem_insU.mp hy with e | e
        · subst e; omega
        · exact h.1 y e
theorem sortU_sorted : ∀ l : List Int, (sortU l).Pairwise (· < ·)
  | [] => .nil
  | a :: r => insU_sorted a (sortU_sorted r)
theorem sorted_uniq : ∀ {l m : List Int}, l.Pairwise (· < ·) → m.Pairwise (· < ·) → (∀ k, k ∈ l ↔ k ∈ m) → l = m
  | [], [], _, _, _ => rfl
  | [], b :: m, _, _, h => by have := (h b).mpr List.mem_cons_self; simp at this
  | a :: l, [], _, _, h => by have := (h a).mp List.mem_cons_self; simp at this
  | a :: l, b :: m, hl, hm, h => by
    rw [List.pairwise_cons] at hl hm
    have e : a = b := by
      rcases List.mem_cons.mp ((h a).mp List.mem_cons_self) with e | e
      · exact e
      · rcases List.mem_cons.mp ((h b).mpr List.mem_cons_self) with e2 | e2
        · exact e2.symm
        · have := hm.1 a e; have := hl.1 b e2; omega
    subst e
    have : l = m := sorted_uniq hl.2 hm.2 fun k => by
      constructor
      · intro hk
        rcases List.mem_cons.mp ((h k).mp (List.mem_cons_of_mem _ hk)) with e | e
        · subst e; have := hl.1 k hk; omega
        · exact e
      · intro hk
        rcases List.mem_cons.mp ((h k).mpr (List.mem_cons_of_mem _ hk)) with e | e
        · subst e; have := hm.1 k hk; omega
        · exact e
    rw [this]
theorem sortU_uniq {l m : List Int} (h : m.Pairwise (· < ·)) (e : ∀ k, k ∈ m ↔ k ∈ l) : m = sortU l :=
  sorted_uniq h (sortU_sorted l) fun k => (e k).trans mem_sortU.symm
/-- as many as a list without repetition in which just these are -/
theorem nodup_len : ∀ {l m : List Int}, l.Nodup → m.Nodup → (∀ k, k ∈ l ↔ k ∈ m) → l.length = m.length
  | l, m, hl, hm, h => by
    have hp : l.Perm m := (List.perm_ext_iff_of_nodup hl hm).mpr h
    exact hp.length_eq
theorem sortU_nodup (l : List Int) : (sortU l).Nodup := (sortU_sorted l).imp fun h e => by subst e; exact absurd h (Int.lt_irrefl _)
/-- set(t) of a tuple of ints -/
def rSetT (K : PySem.W.Frag) (w : World) : List V → Hp → VK → Prop := fun vs H Q => ∃ (a : Addr) (ns : List Int), vs = [V.ref a] ∧ SqT K H a (ns.map V.int) ∧ ns.length + 1 < scanBound ∧
  ∀ p, H p = none → Q (.ref p) (upd H p (SetO w p (fun k => decide (k ∈ ns)) (sortU ns).length))
theorem cr_setT {X : Cx} (hc : X.calm = true) : CallR X (.type "set") (rSetT X.K X.w) := by
  intro pins s σ H vs us Q I r h
  obtain ⟨a, ns, rfl, hs, hb, q⟩ := h
  obtain ⟨its, rv, hl, _⟩ := I.tuple hs
  rw [Vals.ref1 r]
  refine call_set_tupI ns (I.ok.hd hc) (show s.heap.IsTuple a its.toArray from hl) (by simpa using rv.ints) hb fun h' tk c R hc' hk => ?_
  have hcn : c = (sortU ns).length := by
    obtain ⟨o, es, ep, t, ho, hx, hd, g, nd, hm, hbb, hf, hn, _⟩ := R
    rw [← hn]
    have e1 : es.size = (es.toList.map keyOf).length := by simp
    rw [e1]
    refine nodup_len nd (sortU_nodup ns) fun k => ?_
    rw [← hm k, mem_sortU]
    simp
  subst hcn
  exact ⟨.ref _, upd H s.heap.objs.size (SetO X.w s.heap.objs.size _ _), I.laid (t' := tk) hk (Nat.le_refl _) (setO_new R), rfl, q _ (I.hok.fresh (Nat.le_refl _))⟩
end DLT
namespace DL
open PySem L2 DLT
section
variable {K : PySem.W.Frag} {X : Cx} {a b e o : Expr} {es : List Expr} {f g k : S → Option (D × S)} {pos p p2 p3 : Pos}
/-- sorted(set(t)) -/
def sortSet (f : S → Option (D × S)) (s : S) : Option (List D × S) := (f s).bind fun r => match r.1 with
  | .tup ds => (intsD ds).bind fun ns => if (decide (ns.length < 4000) && decide ((sortU ns).length < 64)) = true then some ((sortU ns).map .int, r.2) else none
  | _ => none
theorem eo_sortSet (hc : X.calm = true) (ha : EV X a f) (hm : X.mg "sorted" = none) (hm2 : X.mg "set" = none) (hg : Gl X "sorted" := by rfl) (hg2 : Gl X "set" := by rfl)
    (hs : starEach [a] X.env = (false, eval a X.env) :: starEach [] X.env := by rfl) (hs2 : starEach [.Call (.Name "set" p2) [a] [] p3] X.env = (false, eval (.Call (.Name "set" p2) [a] [] p3) X.env) :: starEach [] X.env := by rfl) :
    EO X (.Call (.Name "sorted" p) [.Call (.Name "set" p2) [a] [] p3] [] pos) (sortSet f) := fun B =>
  PE.weak (pe_callB (cr_sortedSet hc) hg hm (by decide +kernel) (pa_cons (pe_callTy (cr_setT hc) hg2 hm2 (by decide +kernel) (pa_cons (ha B) pa_nil hs) (by decide) (by decide) hs rfl) pa_nil hs2) (by decide) (by decide) hs2 rfl) fun σ H Q ⟨G, s, d, s', R, h, kk⟩ => by
    unfold sortSet at h
    cases q : f s with
    | none => rw [q] at h; cases h
    | some r =>
      rw [q] at h
      obtain ⟨x, s1⟩ := r
      simp only [Option.bind_some] at h
      refine ⟨G, s, x, s1, R, q, fun v G1 H1 a1 R1 r1 => ?_⟩
      cases r1 <;> first | (cases h; done) | skip
      rename_i t vs ds h1 h2
      simp only at h
      cases q1 : intsD ds with
      | none => rw [q1] at h; cases h
      | some ns =>
        rw [q1] at h
        simp only [Option.bind_some] at h
        split at h
        · rename_i hz
          rw [Bool.and_eq_true] at hz
          cases h
          have e := intsD_eq q1
          subst e
          have e2 := h2.of_ints
          subst e2
          have hz1 := of_decide_eq_true hz.1
          refine ⟨t, ns, rfl, same_t R1.sub h1, by show ns.length + 1 < 4096; omega, fun p' hp => ?_⟩
          have R2 := R1.alloc (o := SetO X.w p' (fun k => decide (k ∈ ns)) (sortU ns).length) hp
          refine ⟨p', _, _, rfl, upd_same, of_decide_eq_true hz.2, fun ns' p'' h3 h4 h5 h6 => ?_⟩
          have e3 : ns' = sortU ns := sortU_uniq h3 fun k => (h4 k).trans (by simp)
          subst e3
          obtain ⟨R3, F3⟩ := fresh_new (vs := (sortU ns).map V.int) R2 h6
          exact kk p'' _ G1 _ a1 R3 F3 (RepL.ints _)
        · cases h
/-- enumerate(x) -/
def itEn (f : S → Option (D × S)) (s : S) : Option (List D × S) := (f s).bind fun r => (seqD r.1).map fun ds => (enumL ds, r.2)
theorem walk_eT {G : Hp} {a : Addr} {vs : List V} {ds : List D} (h : SqT K G a vs) (r : RepL K G ds vs) : Walk K G (IteT K a) (enumL ds) := fun B G' H' σ' s' a1 R' => by
  have q : SqT K H' a vs := same_t R'.sub (same_t a1 h)
  refine ⟨⟨vs, q, by rw [enumL_len, r.length]; exact Nat.le_refl _⟩, fun i d hd => ?_⟩
  obtain ⟨x, hx, rfl⟩ := enumL_get hd
  obtain ⟨v, hv, rv⟩ := r.getD hx
  refine ⟨⟨vs, v, q, hv⟩, fun y H'' hy => ?_⟩
  obtain ⟨T, w, rfl, hT, rfl, hw⟩ := hy
  have := hw vs q
  rw [hv] at this; cases this
  have hg := R'.gnone hT
  exact ⟨upd G' T (.tup [.int (i : Nat), v]), same_upd hg, R'.allocG hT, .tup (SqT.of upd_same) (.cons (.int _) (.cons ((rv.mono a1).mono (same_upd hg)) .nil)), fun p h1 h2 h3 => by
    by_cases e : p = T
    · subst e; rw [upd_same] at h3; cases h3
    · rw [upd_ne e] at h2; exact h2 h1⟩
theorem iv_enum {elts : List Expr} {kk : Nat} {tpos : Pos} (ha : EV X e f) (hm : X.mg "enumerate" = none) (hg : Gl X "enumerate" := by rfl) (hs : starEach [e] X.env = [(false, eval e X.env)] := by rfl) : IV X (.Tuple elts kk tpos) (.Call (.Name "enumerate" p) [e] [] pos) (itEn f) := fun B =>
  PI.weak (pi_enumA hg hm (pa_cons (ha B) pa_nil hs) hs) fun σ H R ⟨G, s, ds, s', R0, hf, k⟩ => by
    unfold itEn at hf
    cases q : f s with
    | none => rw [q] at hf; cases hf
    | some r =>
      rw [q] at hf
      obtain ⟨d, s1⟩ := r
      simp only [Option.bind_some] at hf
      refine ⟨G, s, d, s1, R0, q, fun v G' H' a R' r' => ?_⟩
      cases r' <;> first | (cases hf; done) | skip
      · rename_i p vs es h1 h2
        cases hf
        exact ⟨p, vs, rfl, .inr ⟨same_t R'.sub h1, k _ G' H' a R' (walk_eT h1 h2)⟩⟩
      · rename_i p vs es h1 h2
        cases hf
        exact ⟨p, vs, rfl, .inl ⟨SqL.of (R'.sub _ _ h1), k _ G' H' a R' (walk_e (SqL.of h1) h2)⟩⟩
      · rename_i p vs es h1 h2
        cases hf
        exact ⟨p, vs, rfl, .inl ⟨R'.sub.seq h1, k _ G' H' a R' (walk_e h1 h2)⟩⟩
/-- zip(x, y), both tuples or both lists -/
def zipL (xs ys : List D) : List D := xs.zipWith (fun x y => .tup [x, y]) ys
theorem zipL_get {xs ys : List D} {i : Nat} {d : D} (h : (zipL xs ys)[i]? = some d) : ∃ x y, xs[i]? = some x ∧ ys[i]? = some y ∧ d = .tup [x, y] := by
  unfold zipL at h
  rw [List.getElem?_zipWith] at h
  cases q : xs[i]? with
  | none => rw [q] at h; cases h
  | some x =>
    cases q2 : ys[i]? with
    | none => rw [q, q2] at h; cases h
    | some y => rw [q, q2] at h; cases h; exact ⟨x, y, rfl, rfl, rfl⟩
theorem zipL_len (xs ys : List D) : (zipL xs ys).length = min xs.length ys.length := by simp [zipL]
theorem walk_z {G : Hp} {a b : Addr} {vs ws : List V} {ds es : List D} (h : SqL K G a vs) (r : RepL K G ds vs) (h' : SqL K G b ws) (r' : RepL K G es ws) : Walk K G (Itz K a b) (zipL ds es) := fun B G' H' σ' s' a1 R' => by
  have q : SqL K H' a vs := R'.sub.seq (a1.seq h)
  have q' : SqL K H' b ws := R'.sub.seq (a1.seq h')
  refine ⟨⟨vs, ws, q, q', by rw [zipL_len, r.length, r'.length]; omega⟩, fun i d hd => ?_⟩
  obtain ⟨x, y, hx, hy, rfl⟩ := zipL_get hd
  obtain ⟨v, hv, rv⟩ := r.getD hx
  obtain ⟨w, hw, rw'⟩ := r'.getD hy
  refine ⟨⟨vs, ws, v, w, q, q', hv, hw⟩, fun z H'' hz => ?_⟩
  obtain ⟨T, v1, w1, rfl, hT, rfl, e1, e2⟩ := hz
  have := e1 vs q
  rw [hv] at this; cases this
  have := e2 ws q'
  rw [hw] at this; cases this
  have hg := R'.gnone hT
  exact ⟨upd G' T (.tup [v, w]), same_upd hg, R'.allocG hT, .tup (SqT.of upd_same) (.cons ((rv.mono a1).mono (same_upd hg)) (.cons ((rw'.mono a1).mono (same_upd hg)) .nil)), fun p h1 h2 h3 => by
    by_cases e : p = T
    · subst e; rw [upd_same] at h3; cases h3
    · rw [upd_ne e] at h2; exact h2 h1⟩
theorem walk_zT {G : Hp} {a b : Addr} {vs ws : List V} {ds es : List D} (h : SqT K G a vs) (r : RepL K G ds vs) (h' : SqT K G b ws) (r' : RepL K G es ws) : Walk K G (RZ.ItzT K a b) (zipL ds es) := fun B G' H' σ' s' a1 R' => by
  have q : SqT K H' a vs := same_t R'.sub (same_t a1 h)
  have q' : SqT K H' b ws := same_t R'.sub (same_t a1 h')
  refine ⟨⟨vs, ws, q, q', by rw [zipL_len, r.length, r'.length]; omega⟩, fun i d hd => ?_⟩
  obtain ⟨x, y, hx, hy, rfl⟩ := zipL_get hd
  obtain ⟨v, hv, rv⟩ := r.getD hx
  obtain ⟨w, hw, rw'⟩ := r'.getD hy
  refine ⟨⟨vs, ws, v, w, q, q', hv, hw⟩, fun z H'' hz => ?_⟩
  obtain ⟨T, v1, w1, rfl, hT, rfl, e1, e2⟩ := hz
  have := e1 vs q
  rw [hv] at this; cases this
  have := e2 ws q'
  rw [hw] at this; cases this
  have hg := R'.gnone hT
  exact ⟨upd G' T (.tup [v, w]), same_upd hg, R'.allocG hT, .tup (SqT.of upd_same) (.cons ((rv.mono a1).mono (same_upd hg)) (.cons ((rw'.mono a1).mono (same_upd hg)) .nil)), fun p h1 h2 h3 => by
    by_cases e : p = T
    · subst e; rw [upd_same] at h3; cases h3
    · rw [upd_ne e] at h2; exact h2 h1⟩
def zipD : List D → Option (List D)
  | [.tup xs, .tup ys] => some (zipL xs ys)
  | [x, y] => (asL x).bind fun xs => (asL y).map fun ys => zipL xs ys
  | _ => none
def itZ (t : S → Option (List D × S)) (s : S) : Option (List D × S) := (t s).bind fun r => (zipD r.1).map fun ds => (ds, r.2)
theorem asL_ok {G H : Hp} {d : D} {v : V} {ds : List D} (r : Rep K G d v) (h : asL d = some ds) : ∃ p vs, v = .ref p ∧ SqL K G p vs ∧ RepL K G ds vs := by
  cases r <;> first | (cases h; done) | skip
  · rename_i a vs es h1 h2; cases h; exact ⟨a, vs, rfl, SqL.of h1, h2⟩
  · rename_i a vs es h1 h2; cases h; exact ⟨a, vs, rfl, h1, h2⟩
theorem iv_zip {elts : List Expr} {kk : Nat} {tpos : Pos} {t : S → Option (List D × S)} (ha : AV X [a, b] t) (hm : X.mg "zip" = none) (hg : Gl X "zip" := by rfl) (hs : starEach [a, b] X.env = (false, eval a X.env) :: starEach [b] X.env := by rfl) (hpl : (backTo pos (starEach [b] X.env)).any (·.1) = false := by rfl) :
    IV X (.Tuple elts kk tpos) (.Call (.Name "zip" p) [a, b] [] pos) (itZ t) := fun B =>
  PI.weak (RZ.pi_zipA hg hm (ha B) hs hpl) fun σ H R ⟨G, s, ds, s', R0, hf, k⟩ => by
    unfold itZ at hf
    cases q : t s with
    | none => rw [q] at hf; cases hf
    | some r =>
      rw [q] at hf
      obtain ⟨es, s1⟩ := r
      simp only [Option.bind_some] at hf
      cases q1 : zipD es with
      | none => rw [q1] at hf; cases hf
      | some zs =>
        rw [q1] at hf
        cases hf
        refine ⟨G, s, es, _, R0, q, fun vs G' H' a R' r' => ?_⟩
        unfold zipD at q1
        split at q1
        · rename_i xs ys
          cases q1
          cases r' with | cons r1 r2 => cases r1 with | tup h1 h2 => cases r2 with | cons r3 r4 => cases r3 with | tup h3 h4 => cases r4; exact ⟨_, _, _, _, rfl, .inr ⟨same_t R'.sub h1, same_t R'.sub h3, k _ G' H' a R' (walk_zT h1 h2 h3 h4)⟩⟩
        · rename_i x y _
          cases q2 : asL x with
          | none => rw [q2] at q1; cases q1
          | some xs =>
            rw [q2] at q1
            simp only [Option.bind_some] at q1
            cases q3 : asL y with
            | none => rw [q3] at q1; cases q1
            | some ys =>
              rw [q3] at q1; cases q1
              cases r' with | cons r1 r2 => cases r2 with | cons r3 r4 =>
                cases r4
                obtain ⟨p1, v1, rfl, l1, m1⟩ := asL_ok (H := H') r1 q2
                obtain ⟨p2, v2, rfl, l2, m2⟩ := asL_ok (H := H') r3 q3
                exact ⟨_, _, _, _, rfl, .inl ⟨R'.sub.seq l1, R'.sub.seq l2, k _ G' H' a R' (walk_z l1 m1 l2 m2)⟩⟩
        · cases q1
/-- x[::-1] -/
def revD (x : D) : Option D := match x with
  | .tup ds => some (.tup ds.reverse)
  | .lst ds => some (.lst ds.reverse)
  | .fl ds => some (.lst ds.reverse)
  | _ => none
def revF (f : S → Option (D × S)) (s : S) : Option (D × S) := (f s).bind fun r => (revD r.1).map fun d => (d, r.2)
theorem ev_rev {n : Nat} {q1 q2 : Pos} (ha : EV X a f) : EV X (.Subscript a (.Slice none none (some (.UnaryOp .USub (.Constant (.int 1) n q1) q2)) p3) pos) (revF f) := fun B =>
  PE.weak (pe_revA (ha B)) fun σ H Q ⟨G, s, d, s', R, h, kk⟩ => by
    unfold revF at h
    cases q : f s with
    | none => rw [q] at h; cases h
    | some r =>
      rw [q] at h
      obtain ⟨x, s1⟩ := r
      simp only [Option.bind_some] at h
      cases q1 : revD x with
      | none => rw [q1] at h; cases h
      | some z =>
        rw [q1] at h; cases h
        refine ⟨G, s, x, _, R, q, fun v G1 H1 a1 R1 r1 => ?_⟩
        cases r1 <;> first | (cases q1; done) | skip
        · rename_i t vs ds h1 h2
          cases q1
          refine ⟨t, vs, rfl, .inr ⟨same_t R1.sub h1, fun p hp => ?_⟩⟩
          have hg := R1.gnone hp
          exact kk _ (upd G1 p (.tup vs.reverse)) _ (a1.trans (same_upd hg)) (R1.allocG hp) (.tup (SqT.of upd_same) (h2.rev.mono (same_upd hg)))
        · rename_i t vs ds h1 h2
          cases q1
          refine ⟨t, vs, rfl, .inl ⟨SqL.of (R1.sub _ _ h1), fun p hp => ?_⟩⟩
          have hg := R1.gnone hp
          exact kk _ (upd G1 p (.lst vs.reverse)) _ (a1.trans (same_upd hg)) (R1.allocG hp) (.lst upd_same (h2.rev.mono (same_upd hg)))
        · rename_i t vs ds h1 h2
          cases q1
          refine ⟨t, vs, rfl, .inl ⟨R1.sub.seq h1, fun p hp => ?_⟩⟩
          have hg := R1.gnone hp
          exact kk _ (upd G1 p (.lst vs.reverse)) _ (a1.trans (same_upd hg)) (R1.allocG hp) (.lst upd_same (h2.rev.mono (same_upd hg)))
/-- sum of a list, a tuple -/
def sumD : List D → Option D := one fun d => (seqD d).bind fun ds => (intsD ds).map fun ns => .int ns.sum
theorem d_sum : CallD K (rSumA K) sumD := fun B G H σ s ds d vs Q R rr hd k => by
  unfold sumD one at hd
  split at hd
  · rename_i x
    dsimp only at hd
    cases rr with | cons r1 r2 =>
      cases r2
      cases q : seqD x with
      | none => rw [q] at hd; cases hd
      | some es =>
        rw [q] at hd
        simp only [Option.bind_some] at hd
        cases q1 : intsD es with
        | none => rw [q1] at hd; cases hd
        | some ns =>
          rw [q1] at hd; cases hd
          have e := intsD_eq q1
          subst e
          obtain ⟨p, vs, rfl, z, rl⟩ := seq_ok R.sub r1 q
          have e2 := rl.of_ints
          subst e2
          exact ⟨p, ns, rfl, z.symm, k _ G H (Same.refl G) R (.int _)⟩
  · cases hd
/-- sorted of ints, or of tuples of ints -/
def intsT : D → Option (List Int)
  | .tup ds => intsD ds
  | _ => none
def rowsD : List D → Option (List (List Int))
  | [] => some []
  | d :: r => (intsT d).bind fun ns => if ns = [] then none else (rowsD r).map fun l => ns :: l
def insR (a : List Int) : List (List Int) → List (List Int)
  | [] => [a]
  | b :: r => if HT.lexLt b a = true then b :: insR a r else a :: b :: r
def sortRw : List (List Int) → List (List Int)
  | [] => []
  | a :: r => insR a (sortRw r)
def rowD (ns : List Int) : D := .tup (ns.map .int)
theorem rowsD_eq : ∀ {ds : List D} {rs : List (List Int)}, rowsD ds = some rs → ds = rs.map rowD ∧ ∀ r ∈ rs, r ≠ []
  | [], rs, h => by cases h; exact ⟨rfl, fun r hr => by simp at hr⟩
  | d :: ds, rs, h => by
    unfold rowsD at h
    cases q : intsT d with
    | none => rw [q] at h; cases h
    | some ns =>
      rw [q] at h
      simp only [Option.bind_some] at h
      split at h
      · cases h
      · rename_i hn
        cases q2 : rowsD ds with
        | none => rw [q2] at h; cases h
        | some l =>
          rw [q2] at h; cases h
          obtain ⟨e1, e2⟩ := rowsD_eq q2
          refine ⟨?_, fun r hr => ?_⟩
          · unfold intsT at q
            split at q
            · rw [e1, intsD_eq q]; rfl
            · cases q
          · rcases List.mem_cons.mp hr with e | e
            · subst e; exact hn
            · exact e2 r e
theorem insR_perm (a : List Int) : ∀ l, (insR a l).Perm (a :: l)
  | [] => .refl _
  | b :: r => by
    unfold insR
    split
    · exact ((insR_perm a r).cons b).trans (.swap a b r)
    · exact .refl _
theorem sortRw_perm : ∀ l, (sortRw l).Perm l
  | [] => .refl _
  | a :: r => (insR_perm a _).trans ((sortRw_perm r).cons a)
theorem lex_conn : ∀ {a b : List Int}, HT.lexLt a b = false → HT.lexLt b a = false → a = b
  | [], [], _, _ => rfl
  | [], _ :: _, h, _ => by simp [HT.lexLt] at h
  | _ :: _, [], _, h => by simp [HT.lexLt] at h
  | x :: xs, y :: ys, h, h' => by
    rw [HT.lexLt_cons] at h h'
    by_cases e : x = y
    · subst e
      rw [if_pos rfl] at h h'
      rw [lex_conn h h']
    · rw [if_neg e] at h
      rw [if_neg (Ne.symm e)] at h'
      have h1 := of_decide_eq_false h
      have h2 := of_decide_eq_false h'
      omega
theorem insR_sorted (a : List Int) : ∀ {l}, l.Pairwise (fun x y => HT.lexLt y x = false) → (insR a l).Pairwise (fun x y => HT.lexLt y x = false)
  | [], _ => by simp [insR]
  | b :: r, h => by
    have O := NtL.swo_lexL (fun x : List Int => x)
    unfold insR
    rw [List.pairwise_cons] at h
    split
    · rename_i hab
      refine List.pairwise_cons.mpr ⟨fun y hy => ?_, insR_sorted a h.2⟩
      rcases List.mem_cons.mp ((insR_perm a r).mem_iff.mp hy) with e | e
      · subst e; exact O.asym _ _ hab
      · exact h.1 y e
    · rename_i hab
      have hab : HT.lexLt b a = false := by simpa using hab
      refine List.pairwise_cons.mpr ⟨fun y hy => ?_, List.pairwise_cons.mpr h⟩
      rcases List.mem_cons.mp hy with e | e
      · subst e; exact hab
      · exact O.tr a b y hab (h.1 y e)
theorem sortRw_sorted : ∀ l, (sortRw l).Pairwise (fun x y => HT.lexLt y x = false)
  | [] => .nil
  | a :: r => insR_sorted a (sortRw_sorted r)
theorem sortRw_uniq {l l' : List (List Int)} (p : l'.Perm l) (s : l'.Pairwise (fun x y => HT.lexLt y x = false)) : l' = sortRw l :=
  (p.trans (sortRw_perm l).symm).eq_of_pairwise (le := fun x y => HT.lexLt y x = false) (fun a b _ _ h1 h2 => lex_conn h2 h1) s (sortRw_sorted l)
def rSortA (K : PySem.W.Frag) : List V → Hp → VK → Prop := fun vs H Q => rSortedI K vs H Q ∨ rSortTI K vs H Q
theorem cr_sortA : CallR X (.builtin "sorted") (rSortA X.K) := CallR.or cr_sortedI cr_sortTI
def sortedA (ds : List D) : Option (List D) := match intsD ds with
  | some ns => some ((sortI ns).map .int)
  | none => (rowsD ds).map fun rs => (sortRw rs).map rowD
theorem rows_ps : ∀ {G : Hp} {rs : List (List Int)} {vs : List V}, RepL K G (rs.map rowD) vs → (∀ r ∈ rs, r ≠ []) →
    ∃ ps : List (List Int × V), ps.map (·.1) = rs ∧ ps.map (·.2) = vs ∧ ∀ q ∈ ps, Rep K G (rowD q.1) q.2 ∧ q.1 ≠ []
  | _, [], _, .nil, _ => ⟨[], rfl, rfl, fun q h => by simp at h⟩
  | _, r :: rs, _, .cons (v := v) h t, hn => by
    obtain ⟨ps, e1, e2, e3⟩ := rows_ps t fun r' h' => hn r' (List.mem_cons_of_mem _ h')
    refine ⟨(r, v) :: ps, by rw [List.map_cons, e1], by rw [List.map_cons, e2], fun q hq => ?_⟩
    rcases List.mem_cons.mp hq with e | e
    · subst e; exact ⟨h, hn r List.mem_cons_self⟩
    · exact e3 q e
theorem ps_rep {G : Hp} : ∀ {ps : List (List Int × V)}, (∀ q ∈ ps, Rep K G (rowD q.1) q.2) → RepL K G ((ps.map (·.1)).map rowD) (ps.map (·.2))
  | [], _ => .nil
  | q :: ps, h => .cons (h q List.mem_cons_self) (ps_rep fun q' h' => h q' (List.mem_cons_of_mem _ h'))
theorem l_sortedA : CallLO K (rSortA K) sortedA := fun G H ds es p vs Q hs l r hd k => by
  unfold sortedA at hd
  split at hd
  · rename_i ns q
    cases hd
    have e := intsD_eq q
    subst e
    have e2 := r.of_ints
    subst e2
    refine .inl ⟨p, ns, rfl, l, fun ns' q' h1 h2 h3 => ?_⟩
    have e := sortI_uniq h1 h2
    subst e
    exact k q' _ h3 (RepL.ints _)
  · cases q : rowsD ds with
    | none => rw [q] at hd; cases hd
    | some rs =>
      rw [q] at hd; cases hd
      obtain ⟨e1, e2⟩ := rowsD_eq q
      subst e1
      obtain ⟨ps, p1, p2, p3⟩ := rows_ps r e2
      refine .inr ⟨p, ps, rfl, by rw [p2]; exact l, fun q hq => ?_, fun qs p' h1 h2 h3 => ?_⟩
      · obtain ⟨r1, n1⟩ := p3 q hq
        refine ⟨?_, n1⟩
        unfold rowD at r1
        generalize hw : q.2 = w at r1
        cases r1 with
        | tup a1 a2 => rw [a2.of_ints] at a1; exact ⟨_, rfl, same_t hs a1⟩
      · have e3 : (sortRw rs) = qs.map (·.1) := by
          refine (sortRw_uniq (l' := qs.map (·.1)) ?_ ?_).symm
          · rw [← p1]; exact h1.map _
          · rw [List.pairwise_map]; exact h2
        refine k p' _ h3 ?_
        show RepL K G ((sortRw rs).map rowD) _
        rw [e3]
        exact ps_rep fun q hq => (p3 q (h1.mem_iff.mp hq)).1
end
end DL
namespace DLT
open PySem PySem.Spec PyProof.Rows L2
/-! ### t * n -/
theorem tuple_mulS (l : Addr) (items : Array Value) (n : Nat) (dd : Option Addr) (sl : Array (Option Value)) (x : Int) (u : Tok) (c0 : (decide (x < -(2 ^ 63)) || decide (x ≥ 2 ^ 63)) = false) (c1 : (items.isEmpty || x == 1) = true) :
    Meets (Builtin.«tuple.__mul__» ⟨[.ref l, .int x u], []⟩) (fun _ R s => s.heap.get? l = some { cls := .type "tuple", dict := dd, data := .seq items n, slots := sl } ∧
      R (.ok (.ret (Value.ref l))) s) :=
  .of_wp fun prog w A R s h => by
    obtain ⟨hp, g, d, tk, os⟩ := s
    obtain ⟨hl, h⟩ := h
    have f1 := AutoSeq1.idx_int
    wp_walk using AutoSeq1.wpAny_loadPart' hl
    repeat (first
      | (refine wpAny_ite_false (decide_eq_false (by rw [c0]; exact Bool.false_ne_true)) ?_; wp_walk using AutoSeq1.wpAny_loadPart' hl)
      | (refine wpAny_ite_true (decide_eq_true c1) ?_; wp_walk using AutoSeq1.wpAny_loadPart' hl))
    exact ⟨_, rfl, h⟩
theorem tuple_mulZ (l : Addr) (items : Array Value) (n : Nat) (dd : Option Addr) (sl : Array (Option Value)) (x : Int) (u : Tok) (c0 : (decide (x < -(2 ^ 63)) || decide (x ≥ 2 ^ 63)) = false) (c1 : (items.isEmpty || x == 1) = false) (c2 : (decide (x ≤ 0) || items.isEmpty) = true) :
    Meets (Builtin.«tuple.__mul__» ⟨[.ref l, .int x u], []⟩) (fun _ R s => s.heap.get? l = some { cls := .type "tuple", dict := dd, data := .seq items n, slots := sl } ∧
      R (.ok (.ret (Value.ref s.heap.objs.size))) { s with heap := s.heap.push { cls := Value.type "tuple", data := Data.seq #[] } }) :=
  .of_wp fun prog w A R s h => by
    obtain ⟨hp, g, d, tk, os⟩ := s
    obtain ⟨hl, h⟩ := h
    have f1 := AutoSeq1.idx_int
    wp_walk using AutoSeq1.wpAny_loadPart' hl
    repeat (first
      | (refine wpAny_ite_false (decide_eq_false (by rw [c0]; exact Bool.false_ne_true)) ?_; wp_walk using AutoSeq1.wpAny_loadPart' hl)
      | (refine wpAny_ite_false (decide_eq_false (by rw [c1]; exact Bool.false_ne_true)) ?_; wp_walk using AutoSeq1.wpAny_loadPart' hl)
      | (refine wpAny_ite_true (decide_eq_true c2) ?_; wp_walk using AutoSeq1.wpAny_loadPart' hl))
    exact ⟨_, rfl, h⟩
def rRepA (K : PySem.W.Frag) : R2 := fun x y H Q => ∃ l k xs, x = .ref l ∧ y = .int k ∧ SqT K H l xs ∧ -1000000 ≤ k ∧ k ≤ 1000 ∧ xs.length ≤ 1000 ∧
  ((xs = [] ∨ k = 1) → Q (.ref l) H) ∧ (¬ (xs = [] ∨ k = 1) → ∀ p, H p = none → Q (.ref p) (upd H p (.tup (List.replicate k.toNat xs).flatten)))
theorem op_repA {X : Cx} : OpR X (binaryOp .Mult) (rRepA X.K) := by
  intro pins s σ H x y v u Q I rx ry h
  obtain ⟨l, k, xs, rfl, rfl, hT, h1, h2, hz, q1, q2⟩ := h
  by_cases hs : xs = [] ∨ k = 1
  · cases rx
    obtain ⟨t, rfl⟩ := ry
    obtain ⟨its, r, ⟨⟨cls, dd, data, sl⟩, ho, hc, n, hd⟩, hsz⟩ := I.tuple hT
    simp only at hc hd
    subst hc hd
    have hle : its.length = xs.length := r.length.symm
    have c0 : (decide (k < -(2 ^ 63)) || decide (k ≥ 2 ^ 63)) = false := by
      rw [decide_eq_false (by omega), decide_eq_false (by omega)] <;> rfl
    have c1 : (its.toArray.isEmpty || k == 1) = true := by
      rcases hs with e | e
      · subst e
        have : its = [] := List.eq_nil_of_length_eq_zero (by simpa using hle)
        subst this; rfl
      · subst e; simp
    exact wpAny_binaryOp_repeat_ref (T := "tuple") (U := "int") (by decide) ⟨_, ho, rfl⟩ (fun s' => typeIs_int s' k t) noFill_tuple_mul F.fills_int_mul F.slot_int_rmul repeat_tuple F.slot_int_index.lookup
      (call_meets F.slot_int_rmul (typeIs_int s k t) F.entry_int_rmul (F.args_int_rmul_2 _ _) (int_rmul_tuple k t l its.toArray n dd sl)
        ⟨ho, rfl, ⟨_, ho, rfl⟩, call_meets F.slot_tuple_mul ⟨_, ho, rfl⟩ F.entry_tuple_mul (F.args_tuple_mul_2 _ _) (tuple_mulS l its.toArray n dd sl k t c0 c1) ⟨ho, ⟨.ref l, H, I, rfl, q1 hs⟩⟩⟩)
  · by_cases hk : 2 ≤ k
    · exact op_repT pins s σ H _ _ v u Q I rx ry ⟨l, k, xs, rfl, rfl, hT, fun e => hs (.inl e), hk, h2, hz, q2 hs⟩
    · cases rx
      obtain ⟨t, rfl⟩ := ry
      obtain ⟨its, r, ⟨⟨cls, dd, data, sl⟩, ho, hc, n, hd⟩, hsz⟩ := I.tuple hT
      simp only at hc hd
      subst hc hd
      have hle : its.length = xs.length := r.length.symm
      have hk0 : k ≤ 0 := by
        have : k ≠ 1 := fun e => hs (.inr e)
        omega
      have hne : its ≠ [] := fun e => hs (.inl (by subst e; exact List.eq_nil_of_length_eq_zero hle.symm))
      have c0 : (decide (k < -(2 ^ 63)) || decide (k ≥ 2 ^ 63)) = false := by
        rw [decide_eq_false (by omega), decide_eq_false (by omega)] <;> rfl
      have hi : its.toArray.isEmpty = false := by
        cases its with
        | nil => exact absurd rfl hne
        | cons a b => rfl
      have c1 : (its.toArray.isEmpty || k == 1) = false := by
        rw [hi, Bool.false_or]
        exact beq_eq_false_iff_ne.mpr (by omega)
      have c2 : (decide (k ≤ 0) || its.toArray.isEmpty) = true := by
        rw [decide_eq_true hk0] <;> rfl
      have q := q2 hs
      have e0 : k.toNat = 0 := by omega
      rw [e0] at q
      refine wpAny_binaryOp_repeat_ref (T := "tuple") (U := "int") (by decide) ⟨_, ho, rfl⟩ (fun s' => typeIs_int s' k t) noFill_tuple_mul F.fills_int_mul F.slot_int_rmul repeat_tuple F.slot_int_index.lookup
        (call_meets F.slot_int_rmul (typeIs_int s k t) F.entry_int_rmul (F.args_int_rmul_2 _ _) (int_rmul_tuple k t l its.toArray n dd sl)
          ⟨ho, rfl, ⟨_, ho, rfl⟩, call_meets F.slot_tuple_mul ⟨_, ho, rfl⟩ F.entry_tuple_mul (F.args_tuple_mul_2 _ _) (tuple_mulZ l its.toArray n dd sl k t c0 c1 c2) ⟨ho, ?_⟩⟩)
      refine ⟨.ref s.heap.objs.size, _, I.laid (t' := s.toks) (o := .tup (List.replicate 0 xs).flatten) (fun b ob q => Heap.get?_push_of_some _ q) (Nat.le_refl _) ?_, rfl, q _ (I.hok.fresh (Nat.le_refl _))⟩
      exact ⟨by rw [sizeLine_eq]; simp, [], .nil, IsTup.new _ _⟩
/-- x in t, x not in t, of data -/
def rInA (K : PySem.W.Frag) (neg : Bool) : R2 := fun x y H Q => ∃ d ds, Dp K H x d ∧ (Dp K H y (.list ds) ∨ Dp K H y (.tuple ds)) ∧ SeqAt.shaped d = true ∧ SeqAt.shaped (.list ds) = true ∧ Q (.bl (neg != (ds.any fun z => PyData.eqv z d))) H
theorem op_inA {X : Cx} (hu : X.A.units + 65 < cLine) : OpR X (compareOp .In) (rInA X.K false) := by
  intro pins s σ H x y v u Q I rx ry h
  obtain ⟨d, ds, hd, he | he, sd, se, q⟩ := h
  · exact op_inD hu pins s σ H x y v u Q I rx ry ⟨d, ds, hd, he, sd, se, by simpa using q⟩
  · obtain ⟨as, r1⟩ := Dp.reads I d x v hd rx
    obtain ⟨bs, r2⟩ := Dp.reads I (.tuple ds) y u he ry
    exact SeqAt.in_tuple_reads r2 r1 (SeqAt.canLay_of_shaped se) (SeqAt.canLay_of_shaped sd) (room_in_shaped sd hu) ⟨.bl _, H, I, rfl, by simpa using q⟩
theorem op_notInA {X : Cx} (hu : X.A.units + 65 < cLine) : OpR X (compareOp .NotIn) (rInA X.K true) := by
  intro pins s σ H x y v u Q I rx ry h
  obtain ⟨d, ds, hd, he | he, sd, se, q⟩ := h
  · exact op_notInD hu pins s σ H x y v u Q I rx ry ⟨d, ds, hd, he, sd, se, by simpa using q⟩
  · obtain ⟨as, r1⟩ := Dp.reads I d x v hd rx
    obtain ⟨bs, r2⟩ := Dp.reads I (.tuple ds) y u he ry
    exact SeqAt.notIn_tuple_reads r2 r1 (SeqAt.canLay_of_shaped se) (SeqAt.canLay_of_shaped sd) (room_in_shaped sd hu) ⟨.bl _, H, I, rfl, by simpa using q⟩
end DLT
namespace DL
open PySem L2 DLT
section
variable {K : PySem.W.Frag} {X : Cx} {a b c e o : Expr} {es : List Expr} {f g k : S → Option (D × S)} {pos p p2 p3 : Pos}
def rMulT (K : PySem.W.Frag) : R2 := fun x y H Q => rMulA K x y H Q ∨ rRepA K x y H Q
theorem op_mulT : OpR X (binaryOp .Mult) (rMulT X.K) := OpR.or op_mulA op_repA
def mulT (x y : D) : Option D := match x, y with
  | .tup xs, .int k => if (decide (-1000000 ≤ k) && decide (k ≤ 1000) && decide (xs.length ≤ 1000)) = true then some (.tup (List.replicate k.toNat xs).flatten) else none
  | x, y => mulD x y
theorem d_mulT : OpD K (rMulT K) mulT := fun B G H σ s x y d v w Q R rx ry hd kk => by
  unfold mulT at hd
  split at hd
  · rename_i xs k
    split at hd
    · rename_i hz
      rw [Bool.and_eq_true, Bool.and_eq_true] at hz
      cases hd
      cases ry
      cases rx with
      | @tup t vs _ h1 h2 =>
        refine .inr ⟨t, k, vs, rfl, rfl, same_t R.sub h1, of_decide_eq_true hz.1.1, of_decide_eq_true hz.1.2, by rw [← h2.length]; exact of_decide_eq_true hz.2, fun hs => ?_, fun hs p hp => ?_⟩
        · have e : (List.replicate k.toNat xs).flatten = xs := by
            rcases hs with e | e
            · subst e; cases h2; simp
            · subst e; simp
          rw [e] at kk
          exact kk _ G H (Same.refl G) R (.tup h1 h2)
        · have hg := R.gnone hp
          exact kk _ (upd G p (.tup (List.replicate k.toNat vs).flatten)) _ (same_upd hg) (R.allocG hp) (.tup (SqT.of upd_same) ((h2.flat _).mono (same_upd hg)))
    · cases hd
  · exact .inl (d_mul B G H σ s x y d v w Q R rx ry hd kk)
/-! in, not in -/
def inB (x y : D) : Option Bool := (toPy x).bind fun a => (seqD y).bind fun ys => (toPys ys).bind fun bs => if (SeqAt.shaped a && SeqAt.shaped (.list bs)) = true then some (bs.any fun z => PyData.eqv z a) else none
def inD (x y : D) : Option D := (inB x y).map .bl
def notInD (x y : D) : Option D := (inB x y).map fun b => .bl (!b)
theorem inB_ok {G H : Hp} {x y : D} {v w : V} {b : Bool} (hs : Same G H) (rx : Rep K G x v) (ry : Rep K G y w) (h : inB x y = some b) :
    ∃ d ds, Dp K H v d ∧ (Dp K H w (.list ds) ∨ Dp K H w (.tuple ds)) ∧ SeqAt.shaped d = true ∧ SeqAt.shaped (.list ds) = true ∧ b = ds.any fun z => PyData.eqv z d := by
  unfold inB at h
  cases q : toPy x with
  | none => rw [q] at h; cases h
  | some a =>
    rw [q] at h
    simp only [Option.bind_some] at h
    cases q1 : seqD y with
    | none => rw [q1] at h; cases h
    | some ys =>
      rw [q1] at h
      simp only [Option.bind_some] at h
      cases q2 : toPys ys with
      | none => rw [q2] at h; cases h
      | some bs =>
        rw [q2] at h
        simp only [Option.bind_some] at h
        split at h
        · rename_i hz
          rw [Bool.and_eq_true] at hz
          cases h
          refine ⟨a, bs, toPy_ok hs rx q, ?_, hz.1, hz.2, rfl⟩
          cases ry <;> first | (cases q1; done) | skip
          · rename_i h1 h2; cases q1; exact .inr (.tup (same_t hs h1) (toPys_ok hs h2 q2))
          · rename_i h1 h2; cases q1; exact .inl (.lst (SqL.of (hs _ _ h1)) (toPys_ok hs h2 q2))
          · rename_i h1 h2; cases q1; exact .inl (.lst (hs.seq h1) (toPys_ok hs h2 q2))
        · cases h
theorem d_in : OpD K (rInA K false) inD := fun B G H σ s x y d v w Q R rx ry hd kk => by
  unfold inD at hd
  cases q : inB x y with
  | none => rw [q] at hd; cases hd
  | some b =>
    rw [q] at hd; cases hd
    obtain ⟨a, c, h1, h2, h3, h4, rfl⟩ := inB_ok R.sub rx ry q
    exact ⟨a, c, h1, h2, h3, h4, by simpa using kk _ G H (Same.refl G) R (.bl _)⟩
theorem d_notIn : OpD K (rInA K true) notInD := fun B G H σ s x y d v w Q R rx ry hd kk => by
  unfold notInD at hd
  cases q : inB x y with
  | none => rw [q] at hd; cases hd
  | some b =>
    rw [q] at hd; cases hd
    obtain ⟨a, c, h1, h2, h3, h4, rfl⟩ := inB_ok R.sub rx ry q
    exact ⟨a, c, h1, h2, h3, h4, by simpa using kk _ G H (Same.refl G) R (.bl _)⟩
/-! -i -/
def negF (f : S → Option (D × S)) (s : S) : Option (D × S) := (f s).bind fun r => match r.1 with | .int i => some (.int (-i), r.2) | _ => none
theorem ev_neg (ha : EV X a f) : EV X (.UnaryOp .USub a pos) (negF f) := fun B =>
  PE.weak (pe_un un_neg (ha B)) fun σ H Q ⟨G, s, d, s', R, h, kk⟩ => by
    unfold negF at h
    cases q : f s with
    | none => rw [q] at h; cases h
    | some r =>
      rw [q] at h
      obtain ⟨x, s1⟩ := r
      cases x with
      | int i => cases h; exact ⟨G, s, _, _, R, q, fun v G1 H1 a1 R1 r1 => by cases r1; exact ⟨i, rfl, kk _ G1 H1 a1 R1 (.int _)⟩⟩
      | _ => cases h
/-! keywords -/
abbrev KV (X : Cx) (kws : List Keyword) (t : S → Option (List D × S)) : Prop := ∀ B, PK X kws (Ta X.K B t)
theorem PK.weak {kws : List Keyword} {t t' : TA} (h : PK X kws t) (w : ∀ σ H Q, t' σ H Q → t σ H Q) : PK X kws t' := ⟨fun pos pins s σ H Q I q => h.run pos pins s σ H Q I (w _ _ _ q)⟩
theorem kv_nil : KV X [] anil := fun B => PK.weak pk_nil fun σ H Q ⟨G, s, d, s', R, h, k⟩ => by cases h; exact k [] G H (Same.refl G) R .nil
theorem kv_cons {t : S → Option (List D × S)} {kws : List Keyword} {nm : Option Str} {kp : Pos} (ha : EV X a f) (hr : KV X kws t) : KV X (⟨nm, a, kp⟩ :: kws) (acons f t) := fun B =>
  PK.weak (pk_cons (ha B) (hr B)) fun σ H Q ⟨G, s, d, s', R, h, k⟩ => by
    unfold acons at h
    cases q : f s with
    | none => rw [q] at h; cases h
    | some r =>
      rw [q] at h
      obtain ⟨x, s1⟩ := r
      simp only [Option.bind_some] at h
      cases q2 : t s1 with
      | none => rw [q2] at h; cases h
      | some r2 =>
        rw [q2] at h
        obtain ⟨xs, s2⟩ := r2
        cases h
        exact ⟨G, s, x, s1, R, q, fun v G1 H1 a1 R1 r1 => ⟨G1, s1, xs, _, R1, q2, fun vs G2 H2 a2 R2 r2 => k _ G2 H2 (a1.trans a2) R2 (.cons (r1.mono a2) r2)⟩⟩
/-- the values in the parameters' order: n places taken, m keywords -/
def perm {α : Type} (n m : Nat) (π : List Nat) (us ws : List α) : List α := if us.length = n ∧ ws.length = m then π.filterMap fun i => (us ++ ws)[i]? else []
theorem perm_rep {G : Hp} {n m : Nat} {π : List Nat} {xs ys : List D} {us ws : List V} (r : RepL K G xs us) (q : RepL K G ys ws) : RepL K G (perm n m π xs ys) (perm n m π us ws) := by
  unfold perm
  rw [r.length, q.length]
  split
  · have rr := r.app q
    induction π with
    | nil => exact .nil
    | cons i π ih =>
      rw [List.filterMap_cons, List.filterMap_cons]
      cases e : (xs ++ ys)[i]? with
      | none =>
        have : (us ++ ws)[i]? = none := by
          rw [List.getElem?_eq_none_iff] at e ⊢
          rw [← rr.length]; exact e
        rw [this]
        exact ih
      | some d =>
        obtain ⟨v, e2, rv⟩ := rr.getD e
        rw [e2]
        exact .cons rv ih
  · exact .nil
theorem perm_vals {n m : Nat} {π : List Nat} {us ws : List V} {xs ys : List Value} (r : Vals us xs) (q : Vals ws ys) : Vals (perm n m π us ws) (perm n m π xs ys) := by
  unfold perm
  rw [r.length, q.length]
  split
  · have rr := r.append q
    induction π with
    | nil => exact .nil
    | cons i π ih =>
      rw [List.filterMap_cons, List.filterMap_cons]
      cases e : (us ++ ws)[i]? with
      | none => rw [rr.none_of e]; exact ih
      | some d =>
        obtain ⟨v, e2, rv⟩ := rr.get e
        rw [e2]
        exact .cons rv ih
  · exact .nil
theorem kbinds_of {x qual : Str} {st : Stmt} {fa : Addr} {fd : FuncData} {ps ks : List Str} {n m : Nat} {π : List Nat} (Fn : Fun K x qual st fa fd) (hps : ps ≠ [])
    (h : ∀ (kV doc pm : Value) (an : Option Addr) (cdv ct : Value) (us ws : List Value), us.length = n → ws.length = m → bindArgs (PySem.W.fnOf x qual (defArgs st) (defBody st) (defScope st) .none kV doc pm an cdv ct) ⟨us, ks.zip ws⟩ = pure (ps.zip (perm n m π us ws))) :
    KBinds K fd ps ks (perm n m π) (perm n m π) := by
  obtain ⟨oc, od, kV, doc, pm, an, cdv, ct, osl, rfl, lk, hcd⟩ := Fn.ex
  refine ⟨fun s us ws _ hl => ?_, fun r q => perm_vals r q⟩
  by_cases hc : us.length = n ∧ ws.length = m
  · exact .of_eq (h kV doc pm an cdv ct us ws hc.1 hc.2)
  · unfold perm at hl
    rw [if_neg hc] at hl
    exact absurd (List.length_eq_zero_iff.mp hl.symm) hps
def callKF (F : List D → Option Rt) (n m : Nat) (π : List Nat) (t tk : S → Option (List D × S)) (s : S) : Option (D × S) := (t s).bind fun r => (tk r.2).bind fun w => (F (perm n m π r.1 w.1)).map fun q => (rtD q, w.2)
theorem callKF_ok {B : Bs} {E : XK} {ta tb : TA} {F : List D → Option Rt} {n m np : Nat} {π : List Nat} {t tk : S → Option (List D × S)} (hn : ∀ ds, F ds ≠ none → ds.length = np) (ha : ∀ σ H Q, Ta K B t σ H Q → ta σ H Q) (hb : ∀ σ H Q, Ta K B tk σ H Q → tb σ H Q) (σ : L2.St) (H : Hp) (Q : VK)
    (h : Tv K B (callKF F n m π t tk) σ H Q) : tCallK (spV K np F) (perm n m π) E ta tb σ H Q := by
  obtain ⟨G, s, d, s', R, h, kk⟩ := h
  unfold callKF at h
  cases q : t s with
  | none => rw [q] at h; cases h
  | some r1 =>
    rw [q] at h
    obtain ⟨ds, s1⟩ := r1
    simp only [Option.bind_some] at h
    cases q1 : tk s1 with
    | none => rw [q1] at h; cases h
    | some r2 =>
      rw [q1] at h
      obtain ⟨es, s2⟩ := r2
      simp only [Option.bind_some] at h
      cases q2 : F (perm n m π ds es) with
      | none => rw [q2] at h; cases h
      | some z =>
        rw [q2] at h; cases h
        refine ha σ H _ ⟨G, s, ds, s1, R, q, fun vs G1 H1 a1 R1 rl => hb σ H1 _ ⟨G1, s1, es, s', R1, q1, fun ws G2 H2 a2 R2 rl2 => ?_⟩⟩
        have rp := perm_rep (n := n) (m := m) (π := π) (rl.mono a2) rl2
        refine sp_ok R2 rp (by rw [← rp.length]; exact hn _ (by rw [q2]; simp)) q2 fun v G3 H3 a3 R3 r3 => ?_
        obtain ⟨G4, a4, R4, r4⟩ := rt_v R3 (fun q hq => R2.fF hq) (fun q hq => new_slot R2 q hq) r3
        exact kk v G4 H3 (((a1.trans a2).trans a3).trans a4) R4 r4
theorem ev_callK0 {lv : Nat} {fa : Addr} {fd : FuncData} {ps ks : List Str} {x : Str} {kws : List Keyword} {F : List D → Option Rt} {n m np : Nat} {π : List Nat} {tk : S → Option (List D × S)} (Fn : FnOk X.prog X.w X.K X.mg X.base CX0 lv fa fd ps (spV X.K np F)) (hr : Room lv X.A) (hm : X.mg x = some (.ref fa)) (hk : PySem.W.keepIn X.K (.ref fa) = true)
    (hb : KBinds X.K fd ps ks (perm n m π) (perm n m π)) (hn : ∀ ds, F ds ≠ none → ds.length = np) (hkw : KV X kws tk) (hg : Gl X x := by rfl)
    (hall : (backToKw pos (keywordEach kws X.env)).all (·.1.isSome) = true := by rfl) (hks : (backToKw pos (keywordEach kws X.env)).filterMap (·.1) = ks := by rfl) (hdb : (x == ("__debug__" : Str)) = false := by decide)
    (hpl : ((backTo pos (starEach [] X.env)).any (·.1) || (backToKw pos (keywordEach kws X.env)).any (·.1.isNone)) = false := by rfl) :
    EV X (.Call (.Name x p) [] kws pos) (callKF F n m π anil tk) := fun B =>
  PE.weak (pe_callK0 Fn hr hg hm hk hb pass0 (hkw B) hall hks hdb hpl) (callKF_ok hn (fun σ H Q ⟨G, s, ds, s', R, h, k⟩ => by cases h; exact k [] G H (Same.refl G) R .nil) fun _ _ _ h => h)
theorem ev_callK {lv : Nat} {fa : Addr} {fd : FuncData} {ps ks : List Str} {x : Str} {kws : List Keyword} {F : List D → Option Rt} {n m np : Nat} {π : List Nat} {t tk : S → Option (List D × S)} (Fn : FnOk X.prog X.w X.K X.mg X.base CX0 lv fa fd ps (spV X.K np F)) (hr : Room lv X.A) (hm : X.mg x = some (.ref fa)) (hk : PySem.W.keepIn X.K (.ref fa) = true)
    (hb : KBinds X.K fd ps ks (perm n m π) (perm n m π)) (hn : ∀ ds, F ds ≠ none → ds.length = np) (ha : AV X (e :: es) t) (hkw : KV X kws tk) (hg : Gl X x := by rfl)
    (hall : (backToKw pos (keywordEach kws X.env)).all (·.1.isSome) = true := by rfl) (hks : (backToKw pos (keywordEach kws X.env)).filterMap (·.1) = ks := by rfl) (hdb : (x == ("__debug__" : Str)) = false := by decide)
    (he : starEach (e :: es) X.env = (false, eval e X.env) :: starEach es X.env := by rfl) (hpl : ((backTo pos (starEach (e :: es) X.env)).any (·.1) || (backToKw pos (keywordEach kws X.env)).any (·.1.isNone)) = false := by rfl) :
    EV X (.Call (.Name x p) (e :: es) kws pos) (callKF F n m π t tk) := fun B =>
  PE.weak (pe_callK Fn hr hg hm hk hb pass0 (ha B) (hkw B) hall hks hdb he hpl) (callKF_ok hn (fun _ _ _ h => h) fun _ _ _ h => h)
end
end DL
namespace DL
open PySem L2 DLT
/-- values and new lists in a row: apart lists the addresses that are taken -/
inductive ItR (K : PySem.W.Frag) (B : Bs) (G H : Hp) (σ : L2.St) (s : S) : List Addr → List Sl → List V → Prop
  | nil {ap : List Addr} : ItR K B G H σ s ap [] []
  | v {ap : List Addr} {d : D} {v : V} {r : List Sl} {vs : List V} : Rep K G d v → ItR K B G H σ s ap r vs → ItR K B G H σ s ap (.v d :: r) (v :: vs)
  | o {ap : List Addr} {p : Addr} {us : List V} {ds : List D} {r : List Sl} {vs : List V} : Fresh B G H σ s p us → RepL K G ds us → p ∉ ap → ItR K B G H σ s (p :: ap) r vs → ItR K B G H σ s ap (.own ds :: r) (.ref p :: vs)
def Tm (K : PySem.W.Frag) (B : Bs) (f : S → Option (List Sl × S)) : TA := fun σ H Q => ∃ G s is s', Rp K B G H σ s ∧ f s = some (is, s') ∧ ∀ vs G' H', Same G G' → Rp K B G' H' σ s' → ItR K B G' H' σ s' [] is vs → Q vs H'
abbrev MV (X : Cx) (es : List Expr) (f : S → Option (List Sl × S)) : Prop := ∀ B, PA X es (Tm X.K B f)
def mnil (s : S) : Option (List Sl × S) := some ([], s)
def mcv (f : S → Option (D × S)) (t : S → Option (List Sl × S)) (s : S) : Option (List Sl × S) := (f s).bind fun r => (t r.2).map fun q => (.v r.1 :: q.1, q.2)
def mco (f : S → Option (List D × S)) (t : S → Option (List Sl × S)) (s : S) : Option (List Sl × S) := (f s).bind fun r => (t r.2).map fun q => (.own r.1 :: q.1, q.2)
section
variable {X : Cx} {a b c e : Expr} {es : List Expr} {f : S → Option (D × S)} {t : S → Option (List Sl × S)} {pos : Pos}
theorem mv_nil : MV X [] mnil := fun B => PA.weak pa_nil fun σ H Q ⟨G, s, d, s', R, h, k⟩ => by cases h; exact k [] G H (Same.refl G) R .nil
theorem mv_v (ha : EV X a f) (hr : MV X es t) (hs : starEach (a :: es) X.env = (false, eval a X.env) :: starEach es X.env := by rfl) : MV X (a :: es) (mcv f t) := fun B =>
  PA.weak (pa_cons (ha B) (hr B) hs) fun σ H Q ⟨G, s, d, s', R, h, k⟩ => by
    unfold mcv at h
    cases q : f s with
    | none => rw [q] at h; cases h
    | some r =>
      rw [q] at h
      obtain ⟨x, s1⟩ := r
      simp only [Option.bind_some] at h
      cases q2 : t s1 with
      | none => rw [q2] at h; cases h
      | some r2 =>
        rw [q2] at h
        obtain ⟨xs, s2⟩ := r2
        cases h
        exact ⟨G, s, x, s1, R, q, fun v G1 H1 a1 R1 r1 => ⟨G1, s1, xs, _, R1, q2, fun vs G2 H2 a2 R2 r2 => k _ G2 H2 (a1.trans a2) R2 (.v (r1.mono a2) r2)⟩⟩
theorem ItR.del {K : PySem.W.Frag} {B : Bs} {G H : Hp} {σ : L2.St} {s : S} {p : Addr} {us : List V} (hf : B.F p = none) : ∀ {ap : List Addr} {is : List Sl} {vs : List V}, ItR K (B.add p (.lst us)) G H σ s ap is vs → ItR K B G H σ s (p :: ap) is vs := fun {ap is vs} h => by
  have ne : ∀ b, (B.add p (.lst us)).F b = none → B.F b = none ∧ b ≠ p := fun b q => by
    have q' : upd B.F p (.lst us) b = none := q
    by_cases e : b = p
    · subst e; rw [upd_same] at q'; cases q'
    · rw [upd_ne e] at q'; exact ⟨q', e⟩
  have go : ∀ {ap ap' : List Addr} {is : List Sl} {vs : List V}, (∀ b, b ∉ ap → b ≠ p → b ∉ ap') → ItR K (B.add p (.lst us)) G H σ s ap is vs → ItR K B G H σ s ap' is vs := by
    intro ap ap' is vs hap h
    induction h generalizing ap' with
    | nil => exact .nil
    | v r _ ih => exact .v r (ih hap)
    | o F r hn _ ih =>
      obtain ⟨f1, f2, f3, f4⟩ := F
      obtain ⟨n1, n2⟩ := ne _ f3
      refine .o ⟨f1, f2, n1, f4⟩ r (hap _ hn n2) (ih fun b h1 h2 => ?_)
      intro z
      rcases List.mem_cons.mp z with e | e
      · subst e; exact h1 List.mem_cons_self
      · exact hap b (fun y => h1 (List.mem_cons_of_mem _ y)) h2 e
  exact go (fun b h1 h2 z => (List.mem_cons.mp z).elim h2 h1) h
theorem mv_o {f : S → Option (List D × S)} (ha : EO X a f) (hr : MV X es t) (hs : starEach (a :: es) X.env = (false, eval a X.env) :: starEach es X.env := by rfl) : MV X (a :: es) (mco f t) := fun B =>
  PA.weak (pa_cons (ha B) (t := fun σ H Q => ∃ B, Tm X.K B t σ H Q) ⟨fun pos pins s σ H Q I ⟨B', h⟩ => (hr B').run pos pins s σ H Q I h⟩ hs) fun σ H Q ⟨G, s, d, s', R, h, k⟩ => by
    unfold mco at h
    cases q : f s with
    | none => rw [q] at h; cases h
    | some r =>
      rw [q] at h
      obtain ⟨x, s1⟩ := r
      simp only [Option.bind_some] at h
      cases q2 : t s1 with
      | none => rw [q2] at h; cases h
      | some r2 =>
        rw [q2] at h
        obtain ⟨xs, s2⟩ := r2
        cases h
        refine ⟨G, s, x, s1, R, q, fun p us G1 H1 a1 R1 F1 r1 => ⟨B.add p (.lst us), G1, s1, xs, _, R1.addF F1.1 F1.2.1 F1.2.2.1 F1.2.2.2, q2, fun vs G2 H2 a2 R2 r2 => ?_⟩⟩
        obtain ⟨R3, c1, c2, c3⟩ := R2.delF F1.2.2.1 (R1.g0.free F1.2.2.1) (R1.ioNe F1.2.2.1) R1.g0
        exact k _ G2 H2 (a1.trans a2) R3 (.o ⟨c1, c2, F1.2.2.1, c3⟩ (r1.mono a2) (by simp) (ItR.del F1.2.2.1 r2))
/-- the names at js get the items -/
def setAll : List Nat → List Sl → S → Option S
  | [], [], s => some s
  | j :: js, .v d :: is, s => setAll js is (s.setv j d)
  | j :: js, .own ds :: is, s => setAll js is (s.setO j ds)
  | _, _, _ => none
def setSt : List Nat → List V → L2.St → L2.St
  | j :: js, v :: vs, σ => setSt js vs (σ.set j (some v))
  | _, _, σ => σ
theorem setAll_ok {K : PySem.W.Frag} {B : Bs} {G H : Hp} {σ0 : L2.St} {s0 : S} : ∀ {js : List Nat} {is : List Sl} {vs : List V} {ap : List Addr} {σ : L2.St} {s s' : S}, ItR K B G H σ0 s0 ap is vs → Rp K B G H σ s →
    (∀ (i : Nat) (es : List D) (p : Addr), s.e[i]? = some (.own es) → σ[i]? = some (some (.ref p)) → p ∈ ap ∨ ∃ (j : Nat) (fs : List D), s0.e[j]? = some (.own fs) ∧ σ0[j]? = some (some (.ref p))) → setAll js is s = some s' → Rp K B G H (setSt js vs σ) s' := by
  intro js is vs ap σ s s' h
  induction h generalizing js σ s with
  | nil =>
    intro R _ hs
    cases js with
    | nil => cases hs; exact R
    | cons j js => cases hs
  | v r _ ih =>
    rename_i ap d v rs vs hh
    intro R hap hs
    cases js with
    | nil => cases hs
    | cons j js =>
      refine ih (R.setv r) (fun i es p h1 h2 => ?_) hs
      simp only [S.setv] at h1
      have n : j ≠ i := fun z => by
        subst z
        have hl : j < s.e.length := by
          have := (List.getElem?_eq_some_iff.mp h1).1
          simpa using this
        rw [List.getElem?_set_self hl] at h1; cases h1
      rw [List.getElem?_set_ne n] at h1 h2
      exact hap i es p h1 h2
  | o F r hn _ ih =>
    rename_i ap p us ds rs vs hh
    intro R hap hs
    cases js with
    | nil => cases hs
    | cons j js =>
      obtain ⟨f1, f2, f3, f4⟩ := F
      have hf : ∀ (i : Nat) (es : List D), s.e[i]? = some (.own es) → σ[i]? ≠ some (some (.ref p)) := fun i es h1 h2 => by
        rcases hap i es p h1 h2 with z | ⟨j', fs, z1, z2⟩
        · exact hn z
        · exact f4 j' fs z1 z2
      refine ih (R.setO f1 r f2 f3 hf) (fun i es q h1 h2 => ?_) hs
      simp only [S.setO] at h1
      by_cases n : j = i
      · subst n
        have hl : j < s.e.length := by
          have := (List.getElem?_eq_some_iff.mp h1).1
          simpa using this
        rw [List.getElem?_set_self (by rw [R.len]; exact hl)] at h2
        cases h2
        exact .inl List.mem_cons_self
      · rw [List.getElem?_set_ne n] at h1 h2
        rcases hap i es q h1 h2 with z | z
        · exact .inl (List.mem_cons_of_mem _ z)
        · exact .inr z
def parA (js : List Nat) (t : S → Option (List Sl × S)) (s : S) : Option Fl := (t s).bind fun r => (setAll js r.1 r.2).map .nx
theorem ItR.len {K : PySem.W.Frag} {B : Bs} {G H : Hp} {σ : L2.St} {s : S} : ∀ {ap : List Addr} {is : List Sl} {vs : List V}, ItR K B G H σ s ap is vs → is.length = vs.length
  | _, _, _, .nil => rfl
  | _, _, _, .v _ r => by simp [ItR.len r]
  | _, _, _, .o _ _ _ r => by simp [ItR.len r]
theorem setAll_len : ∀ {js : List Nat} {is : List Sl} {s s' : S}, setAll js is s = some s' → js.length = is.length
  | [], [], _, _, _ => rfl
  | j :: js, .v d :: is, _, _, h => by simp only [setAll] at h; simp [setAll_len h]
  | j :: js, .own d :: is, _, _, h => by simp only [setAll] at h; simp [setAll_len h]
  | [], _ :: _, _, _, h => by simp [setAll] at h
  | _ :: _, [], _, _, h => by simp [setAll] at h
  | _ :: _, .no :: _, _, _, h => by simp [setAll] at h
  | _ :: _, .io :: _, _, _, h => by simp [setAll] at h
theorem sv_parA2 (i j : Nat) {x y : Str} {px py pt : Pos} {kt k2 pt2} (ha : MV X [a, b] t) (hc : X.calm = true) (hN : X.N.Nodup) (hi : X.N[i]? = some x := by rfl) (hj : X.N[j]? = some y := by rfl) (hij : i ≠ j := by decide)
    (hx : X.env.scope.names.lookup x = some .local := by rfl) (hy : X.env.scope.names.lookup y = some .local := by rfl)
    (hw : swappedStores [.Tuple [.Name x px, .Name y py] kt pt] (.Tuple [a, b] k2 pt2) X.env = pure (some [x, y]) := by rfl)
    (hs : swapsWithSole [.Tuple [.Name x px, .Name y py] kt pt] (.Tuple [a, b] k2 pt2) pos.line X.env = pure false := by rfl) :
    SV X (.Assign [.Tuple [.Name x px, .Name y py] kt pt] (.Tuple [a, b] k2 pt2) pos) (parA [i, j] t) := fun B =>
  PS.weak (ps_par hc hN hi hj hij hx hy (ha B) hw hs) fun Dn σ H ⟨G, s, o, R, h, k⟩ => by
    unfold parA at h
    cases q : t s with
    | none => rw [q] at h; cases h
    | some r =>
      rw [q] at h
      obtain ⟨ds, s1⟩ := r
      simp only [Option.bind_some] at h
      cases q2 : setAll [i, j] ds s1 with
      | none => rw [q2] at h; cases h
      | some s2 =>
        rw [q2] at h; cases h
        refine ⟨G, s, _, _, R, q, fun vs G' H' a R' r' => ?_⟩
        have hl := r'.len
        have hl2 := setAll_len q2
        have R3 := setAll_ok (js := [i, j]) r' R' (fun i es p h1 h2 => .inr ⟨i, es, h1, h2⟩) q2
        match vs, (show vs.length = 2 by rw [← hl, ← hl2]; rfl), R3 with
        | [v, w], _, R3 => exact ⟨v, w, rfl, k _ G' H' a R3⟩
theorem sv_parA3 (i j l : Nat) {x y z : Str} {px py pz pt : Pos} {kt k2 pt2} (ha : MV X [a, b, c] t) (hc : X.calm = true) (hN : X.N.Nodup) (hi : X.N[i]? = some x := by rfl) (hj : X.N[j]? = some y := by rfl) (hl : X.N[l]? = some z := by rfl) (hij : i ≠ j := by decide) (hil : i ≠ l := by decide) (hjl : j ≠ l := by decide)
    (hx : X.env.scope.names.lookup x = some .local := by rfl) (hy : X.env.scope.names.lookup y = some .local := by rfl) (hz : X.env.scope.names.lookup z = some .local := by rfl)
    (hw : swappedStores [.Tuple [.Name x px, .Name y py, .Name z pz] kt pt] (.Tuple [a, b, c] k2 pt2) X.env = pure (some [x, y, z]) := by rfl)
    (hs : swapsWithSole [.Tuple [.Name x px, .Name y py, .Name z pz] kt pt] (.Tuple [a, b, c] k2 pt2) pos.line X.env = pure false := by rfl) :
    SV X (.Assign [.Tuple [.Name x px, .Name y py, .Name z pz] kt pt] (.Tuple [a, b, c] k2 pt2) pos) (parA [i, j, l] t) := fun B =>
  PS.weak (ps_par3 hc hN hi hj hl hij hil hjl hx hy hz (ha B) hw hs) fun Dn σ H ⟨G, s, o, R, h, k⟩ => by
    unfold parA at h
    cases q : t s with
    | none => rw [q] at h; cases h
    | some r =>
      rw [q] at h
      obtain ⟨ds, s1⟩ := r
      simp only [Option.bind_some] at h
      cases q2 : setAll [i, j, l] ds s1 with
      | none => rw [q2] at h; cases h
      | some s2 =>
        rw [q2] at h; cases h
        refine ⟨G, s, _, _, R, q, fun vs G' H' a R' r' => ?_⟩
        have hl := r'.len
        have hl2 := setAll_len q2
        have R3 := setAll_ok (js := [i, j, l]) r' R' (fun i es p h1 h2 => .inr ⟨i, es, h1, h2⟩) q2
        match vs, (show vs.length = 3 by rw [← hl, ← hl2]; rfl), R3 with
        | [v, w, u], _, R3 => exact ⟨v, w, u, rfl, k _ G' H' a R3⟩
end
end DL
namespace DL
open PySem L2 DLT
/-- a def as it stands behind the top, with its promise -/
def Df (P : Program) (w : World) (K : PySem.W.Frag) (mg : Str → Option Value) (base : Heap) (lv : Nat) (x : Str) (st : Stmt) (ps : List Str) (sp : Sp) : Prop :=
  ∃ fa fd, FnOk P w K mg base CX0 lv fa fd ps sp ∧ mg x = some (.ref fa) ∧ PySem.W.keepIn K (.ref fa) = true ∧ Binds K fd ps [] ∧ Fun K x x st fa fd
/-- where a def stands -/
def At (K : PySem.W.Frag) (mg : Str → Option Value) (x : Str) (st : Stmt) (ps : List Str) : Prop :=
  ∃ fa fd, mg x = some (.ref fa) ∧ Binds K fd ps [] ∧ Fun K x x st fa fd
section
variable {P : Program} {w : World} {K : PySem.W.Frag} {mg : Str → Option Value} {base : Heap} {x : Str} {st : Stmt} {N ps : List Str} {k : Nat}
theorem Df.mono {j : Nat} {sp : Sp} (h : Df P w K mg base j x st ps sp) (hj : j ≤ k) : Df P w K mg base k x st ps sp := by
  obtain ⟨fa, fd, a, b, c, d, e⟩ := h
  exact ⟨fa, fd, a.mono hj, b, c, d, e⟩
def runV (g : S → Option Fl) (np n : Nat) (ds : List D) : Option Rt := if ds.length = np then endV (g (entV n ds)) else none
def runI (g : S → Option Fl) (np n : Nat) (m ds : List D) : Option (Rt × List D) := if ds.length + 1 = np then endI (g (entI n m ds)) else none
theorem runV_len {g : S → Option Fl} {np n : Nat} (ds : List D) (h : runV g np n ds ≠ none) : ds.length = np := by
  unfold runV at h
  split at h
  · assumption
  · exact absurd rfl h
theorem runI_len {g : S → Option Fl} {np n : Nat} (m ds : List D) (h : runI g np n m ds ≠ none) : ds.length + 1 = np := by
  unfold runI at h
  split at h
  · assumption
  · exact absurd rfl h
theorem df_v {g : S → Option Fl} (hat : At K mg x st ps) (Sc : FnScope N ps (defScope st)) (hl : ps.length ≤ N.length)
    (hb : ∀ (f : Addr) (cdv : Value) (A : Around) (outer : List Env) (s : Shared) (H : Hp) (E : XK), Room k (A.deeper (PyProof.Rows.envOfC x (defScope st) s.heap.objs.size f cdv)) → SVs (cxOf CX0 P w K mg base N x (defScope st) f cdv A outer s H E).nox (defBody st) g) :
    Df P w K mg base (k + 1) x st ps (spV K ps.length (runV g ps.length N.length)) := by
  obtain ⟨fa, fd, hm, hbi, F⟩ := hat
  refine ⟨fa, fd, fn_v F Sc hl (fun cdv A outer s H E hr => hb fa cdv A outer s H E hr) fun ds r h1 h2 => ?_, hm, F.kp, hbi, F⟩
  unfold runV at h2
  rw [if_pos h1] at h2
  exact h2
theorem df_i {g : S → Option Fl} (hat : At K mg x st ps) (Sc : FnScope N ps (defScope st)) (hl : ps.length ≤ N.length)
    (hb : ∀ (f : Addr) (cdv : Value) (A : Around) (outer : List Env) (s : Shared) (H : Hp) (E : XK), Room k (A.deeper (PyProof.Rows.envOfC x (defScope st) s.heap.objs.size f cdv)) → SVs (cxOf CX0 P w K mg base N x (defScope st) f cdv A outer s H E).nox (defBody st) g) :
    Df P w K mg base (k + 1) x st ps (spI K ps.length (runI g ps.length N.length)) := by
  obtain ⟨fa, fd, hm, hbi, F⟩ := hat
  refine ⟨fa, fd, fn_i F Sc hl (fun cdv A outer s H E hr => hb fa cdv A outer s H E hr) fun m ds r h1 h2 => ?_, hm, F.kp, hbi, F⟩
  unfold runI at h2
  rw [if_pos h1] at h2
  exact h2
/-- a promise that asks what cannot be -/
theorem df_none (hat : At K mg x st ps) {n : Nat} (hn : n = ps.length) : Df P w K mg base k x st ps (spV K n fun _ => none) := by
  obtain ⟨fa, fd, hm, hbi, F⟩ := hat
  subst hn
  exact ⟨fa, fd, ⟨fun vs H Q E ⟨G, ds, r, e, _⟩ => e, fun A outer s H args us vs Q E _ _ _ _ ⟨G, ds, r, e, _, _, h, _⟩ => by cases h⟩, hm, F.kp, hbi, F⟩
theorem df_noneI (hat : At K mg x st ps) {n : Nat} (hn : n = ps.length) : Df P w K mg base k x st ps (spI K n fun _ _ => none) := by
  obtain ⟨fa, fd, hm, hbi, F⟩ := hat
  subst hn
  exact ⟨fa, fd, ⟨fun vs H Q E ⟨G, p, ws, xs, m, ds, r, m', e, e2, _⟩ => by rw [e]; exact e2, fun A outer s H args us vs Q E _ _ _ _ ⟨G, p, ws, xs, m, ds, r, m', e, e2, _, _, _, _, _, h, _⟩ => by cases h⟩, hm, F.kp, hbi, F⟩
end
section
variable {X : Cx} {lv : Nat} {ps : List Str} {n : Nat} {F : List D → Option Rt} {x : Str} {st : Stmt} {p pos p2 p3 : Pos} {e a b : Expr} {es : List Expr} {t : S → Option (List D × S)} {f g : S → Option (D × S)}
theorem ev_cal (D : Df X.prog X.w X.K X.mg X.base lv x st ps (spV X.K n F)) (hr : Room lv X.A) (hn : ∀ ds, F ds ≠ none → ds.length = n)
    (ha : AV X (e :: es) t) (hg : Gl X x := by rfl) (hdb : (x == ("__debug__" : Str)) = false := by decide) (he : starEach (e :: es) X.env = (false, eval e X.env) :: starEach es X.env := by rfl) (hpl : (backTo pos (starEach es X.env)).any (·.1) = false := by rfl) :
    EV X (.Call (.Name x p) (e :: es) [] pos) (callF F t) := by
  obtain ⟨fa, fd, a, b, c, d, _⟩ := D
  exact ev_call a hr b c d hn ha hg hdb he hpl
theorem eo_cal (D : Df X.prog X.w X.K X.mg X.base lv x st ps (spV X.K n F)) (hr : Room lv X.A) (hn : ∀ ds, F ds ≠ none → ds.length = n)
    (ha : AV X (e :: es) t) (hg : Gl X x := by rfl) (hdb : (x == ("__debug__" : Str)) = false := by decide) (he : starEach (e :: es) X.env = (false, eval e X.env) :: starEach es X.env := by rfl) (hpl : (backTo pos (starEach es X.env)).any (·.1) = false := by rfl) :
    EO X (.Call (.Name x p) (e :: es) [] pos) (callFo F t) := by
  obtain ⟨fa, fd, a, b, c, d, _⟩ := D
  exact eo_call a hr b c d hn ha hg hdb he hpl
theorem ev_cal0 (D : Df X.prog X.w X.K X.mg X.base lv x st ps (spV X.K n F)) (hr : Room lv X.A) (hn : ∀ ds, F ds ≠ none → ds.length = n)
    (hg : Gl X x := by rfl) (hdb : (x == ("__debug__" : Str)) = false := by decide) : EV X (.Call (.Name x p) [] [] pos) (callF F anil) := by
  obtain ⟨fa, fd, a, b, c, d, _⟩ := D
  exact ev_call0 a hr b c d hn hg hdb
theorem ev_calI (i : Nat) {F : List D → List D → Option (Rt × List D)} {y : Str} {py : Pos} (D : Df X.prog X.w X.K X.mg X.base lv x st ps (spI X.K n F)) (hr : Room lv X.A) (hn : ∀ m ds, F m ds ≠ none → ds.length + 1 = n)
    (ha : AV X es t) (hN : X.N[i]? = some y := by rfl) (hv : Vis X.env.scope y := by first | exact Or.inl rfl | exact Or.inr (Or.inl rfl) | exact Or.inr (Or.inr rfl)) (hdy : (y == ("__debug__" : Str)) = false := by decide) (hcy : (y == ("__classdict__" : Str)) = false := by decide)
    (hg : Gl X x := by rfl) (hdb : (x == ("__debug__" : Str)) = false := by decide) (he : starEach (.Name y py :: es) X.env = (false, eval (.Name y py) X.env) :: starEach es X.env := by rfl) (hpl : (backTo pos (starEach es X.env)).any (·.1) = false := by rfl) :
    EV X (.Call (.Name x p) (.Name y py :: es) [] pos) (callI i F t) := by
  obtain ⟨fa, fd, a, b, c, d, _⟩ := D
  exact ev_callI i a hr b c d hn ha hN hv hdy hcy hg hdb he hpl
theorem ev_calK0 {ks : List Str} {kws : List Keyword} {m0 m np : Nat} {π : List Nat} {tk : S → Option (List D × S)} (D : Df X.prog X.w X.K X.mg X.base lv x st ps (spV X.K np F)) (hr : Room lv X.A) (hn : ∀ ds, F ds ≠ none → ds.length = np)
    (hb : ∀ (kV doc pm : Value) (an : Option Addr) (cdv ct : Value) (us ws : List Value), us.length = m0 → ws.length = m → bindArgs (PySem.W.fnOf x x (defArgs st) (defBody st) (defScope st) .none kV doc pm an cdv ct) ⟨us, ks.zip ws⟩ = pure (ps.zip (perm m0 m π us ws)))
    (hkw : KV X kws tk) (hps : ps ≠ [] := by decide) (hg : Gl X x := by rfl)
    (hall : (backToKw pos (keywordEach kws X.env)).all (·.1.isSome) = true := by rfl) (hks : (backToKw pos (keywordEach kws X.env)).filterMap (·.1) = ks := by rfl) (hdb : (x == ("__debug__" : Str)) = false := by decide)
    (hpl : ((backTo pos (starEach [] X.env)).any (·.1) || (backToKw pos (keywordEach kws X.env)).any (·.1.isNone)) = false := by rfl) :
    EV X (.Call (.Name x p) [] kws pos) (callKF F m0 m π anil tk) := by
  obtain ⟨fa, fd, a, b, c, d, Fn⟩ := D
  exact ev_callK0 a hr b c (kbinds_of Fn hps hb) hn hkw hg hall hks hdb hpl
theorem ev_calK {ks : List Str} {kws : List Keyword} {m0 m np : Nat} {π : List Nat} {tk : S → Option (List D × S)} (D : Df X.prog X.w X.K X.mg X.base lv x st ps (spV X.K np F)) (hr : Room lv X.A) (hn : ∀ ds, F ds ≠ none → ds.length = np)
    (hb : ∀ (kV doc pm : Value) (an : Option Addr) (cdv ct : Value) (us ws : List Value), us.length = m0 → ws.length = m → bindArgs (PySem.W.fnOf x x (defArgs st) (defBody st) (defScope st) .none kV doc pm an cdv ct) ⟨us, ks.zip ws⟩ = pure (ps.zip (perm m0 m π us ws)))
    (ha : AV X (e :: es) t) (hkw : KV X kws tk) (hps : ps ≠ [] := by decide) (hg : Gl X x := by rfl)
    (hall : (backToKw pos (keywordEach kws X.env)).all (·.1.isSome) = true := by rfl) (hks : (backToKw pos (keywordEach kws X.env)).filterMap (·.1) = ks := by rfl) (hdb : (x == ("__debug__" : Str)) = false := by decide)
    (he : starEach (e :: es) X.env = (false, eval e X.env) :: starEach es X.env := by rfl) (hpl : ((backTo pos (starEach (e :: es) X.env)).any (·.1) || (backToKw pos (keywordEach kws X.env)).any (·.1.isNone)) = false := by rfl) :
    EV X (.Call (.Name x p) (e :: es) kws pos) (callKF F m0 m π t tk) := by
  obtain ⟨fa, fd, a, b, c, d, Fn⟩ := D
  exact ev_callK a hr b c (kbinds_of Fn hps hb) hn ha hkw hg hall hks hdb he hpl
/-! new lists by + and * -/
def bin2o (f g : S → Option (D × S)) (φ : D → D → Option (List D)) (s : S) : Option (List D × S) := (f s).bind fun r1 => (g r1.2).bind fun r2 => (φ r1.1 r2.1).map fun d => (d, r2.2)
def catO : D → D → Option (List D)
  | .lst xs, .lst ys => if szOk (xs.length + ys.length) = true then some (xs ++ ys) else none
  | _, _ => none
def repO : D → D → Option (List D)
  | .lst xs, .int k => if (decide (k.natAbs < 2 ^ 63) && szOk (xs.length * k.toNat)) = true then some (List.replicate k.toNat xs).flatten else none
  | _, _ => none
theorem bin2o_ok {K : PySem.W.Frag} {B : Bs} {r : R2} {φ : D → D → Option (List D)} {ta tb : TE}
    (hd : ∀ (G H : Hp) (x y : D) (ds : List D) (v w : V) (Q : VK), Same G H → Rep K G x v → Rep K G y w → φ x y = some ds → (∀ p us, H p = none → RepL K G ds us → Q (.ref p) (upd H p (.lst us))) → r v w H Q)
    (ha : ∀ σ H Q, Tv K B f σ H Q → ta σ H Q) (hb : ∀ σ H Q, Tv K B g σ H Q → tb σ H Q) (σ : L2.St) (H : Hp) (Q : VK) (h : To K B (bin2o f g φ) σ H Q) : tOp r ta tb σ H Q := by
  obtain ⟨G, s, d, s', R, h, k⟩ := h
  unfold bin2o at h
  cases q1 : f s with
  | none => rw [q1] at h; cases h
  | some r1 =>
    rw [q1] at h
    obtain ⟨x, s1⟩ := r1
    simp only [Option.bind_some] at h
    cases q2 : g s1 with
    | none => rw [q2] at h; cases h
    | some r2 =>
      rw [q2] at h
      obtain ⟨y, s2⟩ := r2
      simp only [Option.bind_some] at h
      cases q3 : φ x y with
      | none => rw [q3] at h; cases h
      | some z =>
        rw [q3] at h; cases h
        exact ha σ H _ ⟨G, s, x, s1, R, q1, fun v G1 H1 a1 R1 r1 => hb σ H1 _ ⟨G1, s1, y, s', R1, q2, fun w G2 H2 a2 R2 r2 =>
          hd G2 H2 x y d v w Q R2.sub (r1.mono a2) r2 q3 fun p us hp rl => by
            obtain ⟨R3, F3⟩ := fresh_new (vs := us) R2 hp
            exact k p us G2 _ (a1.trans a2) R3 F3 rl⟩⟩
theorem eo_cat (ha : EV X a f) (hb : EV X b g) : EO X (.BinOp a .Add b pos) (bin2o f g catO) := fun B =>
  PE.weak (pe_op op_cat (ha B) (hb B)) (bin2o_ok (fun G H x y ds v w Q hs rx ry hd k => by
    cases rx <;> cases ry <;> first | (cases hd; done) | skip
    rename_i a vs ds h1 h2 b ws es h3 h4
    simp only [catO] at hd
    split at hd
    · rename_i hz
      cases hd
      rw [h2.length, h4.length] at hz
      exact ⟨a, b, vs, ws, rfl, rfl, hs _ _ h1, hs _ _ h3, szOk_le hz, fun p hp => k p _ hp (h2.app h4)⟩
    · cases hd) (fun _ _ _ h => h) fun _ _ _ h => h)
theorem eo_rep (ha : EV X a f) (hb : EV X b g) : EO X (.BinOp a .Mult b pos) (bin2o f g repO) := fun B =>
  PE.weak (pe_op op_rep (ha B) (hb B)) (bin2o_ok (fun G H x y ds v w Q hs rx ry hd k => by
    cases rx <;> cases ry <;> first | (cases hd; done) | skip
    rename_i a vs ds h1 h2 j
    simp only [repO] at hd
    split at hd
    · rename_i hz
      rw [Bool.and_eq_true] at hz
      cases hd
      have hj := of_decide_eq_true hz.1
      have hz2 := hz.2
      rw [h2.length] at hz2
      exact ⟨a, j, vs, rfl, rfl, hs _ _ h1, by omega, by omega, szOk_le hz2, fun p hp => k p _ hp (h2.flat _)⟩
    · cases hd) (fun _ _ _ h => h) fun _ _ _ h => h)
end
section
variable {X : Cx} {x : Str} {p pos p2 : Pos} {e : Expr} {f : S → Option (D × S)}
theorem ev_gi {i : Int} (h : ∃ t, X.mg x = some (.int i t)) (hg : Gl X x := by rfl) (hd : (x == ("__debug__" : Str)) = false := by decide) : EV X (.Name x pos) (cst (.int i)) := by
  obtain ⟨t, h⟩ := h
  exact ev_globI h ⟨t, rfl⟩ hg hd
theorem hu65 {A : Around} {k : Nat} (hr : Room k A) : A.units + 65 < cLine := by have := hr.un; omega
theorem hu64 {A : Around} {k : Nat} (hr : Room k A) : A.units + 64 < cLine := by have := hr.un; omega
theorem tgs0_len : ∀ (ds : List D) (s s' : S), tgs0 ds s = some s' → ds.length = 0 := fun ds s s' h => by
  cases ds with
  | nil => rfl
  | cons d r => cases h
theorem tgsC_len {t : D → S → Option S} {u : List D → S → Option S} {n : Nat} (h : ∀ (ds : List D) (s s' : S), u ds s = some s' → ds.length = n) : ∀ (ds : List D) (s s' : S), tgsC t u ds s = some s' → ds.length = n + 1 := fun ds s s' q => by
  cases ds with
  | nil => cases q
  | cons d r =>
    unfold tgsC at q
    simp only at q
    cases q2 : t d s with
    | none => rw [q2] at q; cases q
    | some s2 => rw [q2] at q; simp [h r s2 s' q]
/-- isinstance(e, (A, B)) -/
def isTys (d : D) : List String → Option Bool
  | [] => some false
  | c :: r => (isTy d c).bind fun b => if b = true then some true else isTys d r
theorem isTys_ok {K : PySem.W.Frag} {d : D} (ho : isOb d = true) : ∀ {cs : List String} {b : Bool}, isTys d cs = some b → PySem.W.kitAny K (.type (tyN d)) (cs.map Value.type) = some b
  | [], b, h => by cases h; rfl
  | c :: r, b, h => by
    unfold isTys at h
    cases q : isTy d c with
    | none => rw [q] at h; cases h
    | some v =>
      rw [q] at h
      simp only [Option.bind_some] at h
      have q' : kitB (tyN d) c = some v := by
        unfold isTy at q
        rw [if_pos ho] at q
        exact q
      rw [List.map_cons]
      cases v with
      | true =>
        cases h
        exact kitAny_cons (b := true) (kit_ty q') (fun z => by cases z) fun _ => rfl
      | false => exact kitAny_cons (b := false) (kit_ty q') (fun _ => isTys_ok ho h) fun z => by cases z
def isiT (f : S → Option (D × S)) (cs : List String) (s : S) : Option (D × S) := (f s).bind fun r => if isOb r.1 = true then (isTys r.1 cs).map fun b => (.bl b, r.2) else none
def tyT : List String → TA
  | [] => tNil
  | c :: r => tCons (tC (.ty c)) (tyT r)
theorem tyT_ok : ∀ (cs : List String) (σ : L2.St) (H : Hp) (Q : List V → Hp → Prop), Q (cs.map V.ty) H → tyT cs σ H Q
  | [], _, _, _, h => h
  | c :: r, σ, H, Q, h => tyT_ok r σ H _ h
theorem tys_cls : ∀ cs : List String, Paired ClsV (cs.map V.ty) (cs.map Value.type)
  | [] => .nil
  | c :: r => .cons (.ty c) (tys_cls r)
theorem ev_isiT {cs : List String} {es : List Expr} {x1} (ha : EV X e f) (ht : PA X es (tyT cs)) (hm : X.mg "isinstance" = none) (hz : cs.length ≤ 16 := by decide) (hg : Gl X "isinstance" := by rfl)
    (hs : starEach (e :: [.Tuple es x1 p2]) X.env = (false, eval e X.env) :: starEach [.Tuple es x1 p2] X.env := by rfl) (hs2 : starEach [.Tuple es x1 p2] X.env = (false, eval (.Tuple es x1 p2) X.env) :: starEach [] X.env := by rfl)
    (hpl : (backTo pos (starEach [.Tuple es x1 p2] X.env)).any (·.1) = false := by rfl) : EV X (.Call (.Name "isinstance" p) [e, .Tuple es x1 p2] [] pos) (isiT f cs) := fun B =>
  PE.weak (pe_callB call_isiT hg hm (by decide +kernel) (pa_cons (ha B) (pa_cons (pe_tup ht) pa_nil hs2) hs) (by decide) (by decide) hs hpl) fun σ H Q ⟨G, s, d, s', R, h, k⟩ => by
    unfold isiT at h
    cases q : f s with
    | none => rw [q] at h; cases h
    | some r =>
      rw [q] at h
      obtain ⟨y, s1⟩ := r
      simp only [Option.bind_some] at h
      split at h
      · rename_i ho
        cases q1 : isTys y cs with
        | none => rw [q1] at h; cases h
        | some b =>
          rw [q1] at h; cases h
          refine ⟨G, s, y, _, R, q, fun v G1 H1 a1 R1 r1 => tyT_ok cs σ H1 _ ⟨by rw [List.length_map, sizeLine_eq]; omega, fun t ht' => ?_⟩⟩
          have hg := R1.gnone ht'
          have R2 := R1.allocG (o := .tup (cs.map V.ty)) ht'
          exact ⟨v, t, cs.map V.ty, .type (tyN y), cs.map Value.type, b, rfl, upd_same, tys_cls cs, ty_ok R2.sub (r1.mono (same_upd hg)) ho, isTys_ok ho q1, k _ _ _ (a1.trans (same_upd hg)) R2 (.bl b)⟩
      · cases h
theorem tys_nil : PA X [] (tyT []) := pa_nil
theorem tys_cons {c : String} {cs : List String} {es : List Expr} {x : Str} (hm : X.mg x = none) (hv : bootBuiltins x = some (.type c)) (h : PA X es (tyT cs)) (hg : Gl X x := by rfl) (hn : x ≠ "__name__" := by decide) (hd : (x == ("__debug__" : Str)) = false := by decide)
    (hs : starEach (.Name x p :: es) X.env = (false, eval (.Name x p) X.env) :: starEach es X.env := by rfl) : PA X (.Name x p :: es) (tyT (c :: cs)) :=
  pa_cons (pe_bltn hg hm hv (show RelV (.ty c) (.type c) from rfl) hn hd) h hs
end
end DL
namespace DL
open PySem L2 DLT
/-! ### the end of a law -/
theorem df_end {P : Program} {w : World} {K : PySem.W.Frag} {mg : Str → Option Value} {base : Heap} {x : Str} {st : Stmt} {ps : List Str} {k : Nat} {sp : Sp} {fa f1 fa2 : Addr} {fd fd2 : FuncData} {oc : Value} {od : Option Addr} {osl : Array (Option Value)}
    (hfa : mg x = some (.ref fa)) (hm : mg x = some (.ref f1)) (l : K.lookup f1 = some ⟨oc, od, .func fd, osl⟩) (h1 : FnOk P w K mg base CX0 k fa2 fd2 ps sp) (h2 : mg x = some (.ref fa2)) (h5 : Fun K x x st fa2 fd2) : FnOk P w K mg base CX0 k fa fd ps sp := by
  rw [hfa] at hm h2
  cases hm; cases h2
  obtain ⟨oc', od', kV, doc, pm, an, cdv, ct, osl', e1, e2, e3⟩ := h5.ex
  rw [l] at e2
  cases e2
  exact h1
theorem sp_law {K : PySem.W.Frag} {F : List D → Option Rt} {H : Hp} {a : Addr} {ns : List Int} (hS : SqL K H a (ns.map V.int)) (h : F [.fl (ns.map .int)] = some (.v (.bl true))) : spV K 1 F [.ref a] H (fun v _ => v = .bl true) fun _ _ _ => False :=
  ⟨H, [.fl (ns.map .int)], .v (.bl true), rfl, Same.refl H, .cons (.fl hS (RepL.ints ns)) .nil, h, fun v G' H' _ _ _ _ r => by
    have r' : Rep K G' (.bl true) v := r
    cases r'; rfl⟩
/-! ### a new list handed to a def that changes it -/
theorem Rp.hold {K : PySem.W.Frag} {B : Bs} {G H : Hp} {σ : L2.St} {s : S} {p : Addr} {vs : List V} (R : Rp K B G H σ s) (F : Fresh B G H σ s p vs) : Rp K ⟨upd B.F p (.lst vs), B.G0, B.io⟩ G H σ s := by
  obtain ⟨f1, f2, f3, f4⟩ := F
  refine ⟨R.sub, R.base, fun b o q => ?_, fun b o q => ?_, fun b o q n => ?_, R.len, fun i sl q => ?_, R.sep, R.iok, fun b q => ?_⟩
  · have := R.g0 b o q
    show upd B.F p (.lst vs) b = some o
    rw [upd_ne (ne_of_none this f3)]; exact this
  · by_cases e : b = p
    · subst e; rw [f2] at q; cases q
    · show _ ∨ upd B.F p (.lst vs) b = none
      rw [upd_ne e]
      exact R.new b o q
  · have q : upd B.F p (.lst vs) b = some o := q
    by_cases e : b = p
    · subst e; rw [upd_same] at q; cases q; exact f1
    · rw [upd_ne e] at q; exact R.frame b o q n
  · obtain ⟨ov, h1, h2⟩ := R.slots i sl q
    refine ⟨ov, h1, ?_⟩
    cases sl with
    | no => trivial
    | v d => exact h2
    | own es =>
      obtain ⟨b, ws, e, a1, a2, a3, a4⟩ := h2
      refine ⟨b, ws, e, a1, a2, a3, ?_⟩
      show upd B.F p (.lst vs) b = none
      rw [upd_ne (fun z => ?_)]; exact a4
      subst z; rw [e] at h1; exact f4 i es q h1
    | io => exact h2
  · obtain ⟨o, q2⟩ := R.iof b q
    exact ⟨o, by show upd B.F p (.lst vs) b = some o; rw [upd_ne (ne_of_none q2 f3)]; exact q2⟩
theorem Rp.unhold {K : PySem.W.Frag} {B : Bs} {G H : Hp} {σ : L2.St} {s : S} {p : Addr} {o : HO} (hf : B.F p = none) (g0 : Same B.G0 B.F) (R : Rp K ⟨upd B.F p o, B.G0, B.io⟩ G H σ s) (hio : ∀ b, B.io = some b → b ≠ p) :
    Rp K B G H σ s ∧ H p = some o ∧ G p = none ∧ ∀ (i : Nat) (es : List D), s.e[i]? = some (.own es) → σ[i]? ≠ some (some (.ref p)) := by
  have dn : ∀ b, upd B.F p o b = none → B.F b = none ∧ b ≠ p := fun b q => by
    by_cases e : b = p
    · subst e; rw [upd_same] at q; cases q
    · rw [upd_ne e] at q; exact ⟨q, e⟩
  have gp : G p = none := by
    cases q : G p with
    | none => rfl
    | some u =>
      rcases R.new p u q with z | z
      · have := g0 p u z; rw [hf] at this; cases this
      · have z : upd B.F p o p = none := z
        rw [upd_same] at z; cases z
  refine ⟨⟨R.sub, R.base, g0, fun b u q => ?_, fun b u q n => ?_, R.len, fun i sl q => ?_, R.sep, R.iok, fun b q => ?_⟩, R.frame p o (show upd B.F p o p = some o from upd_same) (fun e => hio p e rfl), gp, fun i es q z => ?_⟩
  · rcases R.new b u q with z | z
    · exact .inl z
    · exact .inr (dn b z).1
  · exact R.frame b u (by show upd B.F p o b = some u; rw [upd_ne (ne_of_none q hf)]; exact q) n
  · obtain ⟨ov, h1, h2⟩ := R.slots i sl q
    refine ⟨ov, h1, ?_⟩
    cases sl with
    | no => trivial
    | v d => exact h2
    | own es =>
      obtain ⟨b, ws, e, a1, a2, a3, a4⟩ := h2
      exact ⟨b, ws, e, a1, a2, a3, (dn b a4).1⟩
    | io => exact h2
  · obtain ⟨u, q2⟩ := R.iof b q
    have q2 : upd B.F p o b = some u := q2
    rw [upd_ne (hio b q)] at q2
    exact ⟨u, q2⟩
  · obtain ⟨ov, h1, h2⟩ := R.slots i _ q
    obtain ⟨b, ws, e, a1, a2, a3, a4⟩ := h2
    rw [z] at h1
    cases h1
    cases e
    exact (dn _ a4).2 rfl
/-- the state goes on while a list that no one holds is changed -/
theorem Rp.goBut {K : PySem.W.Frag} {B : Bs} {G G' H H' : Hp} {σ : L2.St} {s : S} {p : Addr} (R : Rp K B G H σ s) (hf : B.F p = none) (hs : ∀ (i : Nat) (es : List D), s.e[i]? = some (.own es) → σ[i]? ≠ some (some (.ref p)))
    (hG : Same G G') (sub' : Same G' H') (nw : ∀ b o, G' b = some o → G b = some o ∨ H b = none) (kp : ∀ b o, H b = some o → b ≠ p → H' b = some o) : Rp K B G' H' σ s := by
  have gn : ∀ p, G p = none → (∃ o, H p = some o) → G' p = none := fun p h1 ⟨o, h2⟩ => by
    cases q : G' p with
    | none => rfl
    | some u =>
      rcases nw p u q with z | z
      · rw [h1] at z; cases z
      · rw [h2] at z; cases z
  refine ⟨sub', R.base.trans hG, R.g0, fun b o h => ?_, fun b o h1 h2 => kp b o (R.frame b o h1 h2) (fun z => by subst z; rw [hf] at h1; cases h1), R.len, fun i sl h => ?_, R.sep, fun q h => ?_, R.iof⟩
  · rcases nw b o h with z | z
    · exact R.new b o z
    · exact .inr (R.fF z)
  · obtain ⟨ov, h1, h2⟩ := R.slots i sl h
    refine ⟨ov, h1, ?_⟩
    cases sl with
    | no => trivial
    | v d => obtain ⟨v, e, r⟩ := h2; exact ⟨v, e, r.mono hG⟩
    | own ds =>
      obtain ⟨b, vs, e, a1, a2, a3, a4⟩ := h2
      exact ⟨b, vs, e, kp b _ a1 (fun z => by subst z; rw [e] at h1; exact hs i ds h h1), a2.mono hG, gn b a3 ⟨_, a1⟩, a4⟩
    | io => exact h2
  · obtain ⟨vs, a1, a2, a3⟩ := R.iok q h
    exact ⟨vs, kp q _ a1 (fun z => by subst z; exact R.ioNe hf h), a2.mono hG, gn q a3 ⟨_, a1⟩⟩
def callN (F : List D → List D → Option (Rt × List D)) (f : S → Option (List D × S)) (t : S → Option (List D × S)) (s : S) : Option (D × S) :=
  (f s).bind fun r0 => (t r0.2).bind fun r => (F r0.1 r.1).map fun q => (rtD q.1, r.2)
section
variable {X : Cx} {k : Nat} {f : Addr} {fd : FuncData} {ps : List Str} {n : Nat} {F : List D → List D → Option (Rt × List D)} {x : Str} {p pos : Pos} {e : Expr} {es : List Expr} {f0 t : S → Option (List D × S)}
theorem callN_ok {K : PySem.W.Frag} {B : Bs} {te : TE} {ta : TA} {E : XK} (hn : ∀ m ds, F m ds ≠ none → ds.length + 1 = n) (he : ∀ σ H Q, To K B f0 σ H Q → te σ H Q) (ha : ∀ B σ H Q, Ta K B t σ H Q → ta σ H Q) (σ : L2.St) (H : Hp) (Q : VK)
    (h : Tv K B (callN F f0 t) σ H Q) : tCall (spI K n F) [] E (tCons te ta) σ H Q := by
  obtain ⟨G, s, d, s', R, h, kk⟩ := h
  unfold callN at h
  cases q0 : f0 s with
  | none => rw [q0] at h; cases h
  | some r0 =>
    rw [q0] at h
    obtain ⟨m0, s0⟩ := r0
    simp only [Option.bind_some] at h
    cases q : t s0 with
    | none => rw [q] at h; cases h
    | some r1 =>
      rw [q] at h
      obtain ⟨ds, s1⟩ := r1
      simp only [Option.bind_some] at h
      cases q2 : F m0 ds with
      | none => rw [q2] at h; cases h
      | some z =>
        rw [q2] at h
        obtain ⟨r, m'⟩ := z
        cases h
        refine he σ H _ ⟨G, s, m0, s0, R, q0, fun p vs G1 H1 a1 R1 F1 rm => ?_⟩
        have hio : ∀ b, B.io = some b → b ≠ p := fun b e z => by subst z; exact R1.ioNe F1.2.2.1 e
        refine ha ⟨upd B.F p (.lst vs), B.G0, B.io⟩ σ H1 _ ⟨G1, s0, ds, _, R1.hold F1, q, fun ws G2 H2 a2 R2' rl => ?_⟩
        obtain ⟨R2, hp, gp, hsl⟩ := R2'.unhold F1.2.2.1 R1.g0 hio
        show spI K n F ((.ref p :: ws) ++ []) H2 Q E
        rw [List.append_nil]
        refine ⟨G2, p, ws, vs, m0, ds, r, m', rfl, by rw [← rl.length]; exact hn m0 ds (by rw [q2]; simp), R2.sub, hp, rm.mono a2, gp, rl, q2, fun v G3 H3 us a3 b3 c3 d3 e3 f3 r3 => ?_⟩
        have R3 := R2.goBut F1.2.2.1 hsl a3 b3 c3 d3
        obtain ⟨G4, a4, R4, r4⟩ := rt_v R3 (fun q hq => R2.fF hq) (fun q hq => new_slot R2 q hq) r3
        exact kk v G4 H3 (((a1.trans a2).trans a3).trans a4) R4 r4
theorem pa_anyB {t : S → Option (List D × S)} (ha : AV X es t) : PA X es (fun σ H Q => ∃ B, Ta X.K B t σ H Q) :=
  ⟨fun pos pins s σ H Q I ⟨B, q⟩ => (ha B).run pos pins s σ H Q I q⟩
theorem ev_calN {lv : Nat} {st : Stmt} (Hd : Df X.prog X.w X.K X.mg X.base lv x st ps (spI X.K n F)) (hr : Room lv X.A) (hn : ∀ m ds, F m ds ≠ none → ds.length + 1 = n)
    (h0 : EO X e f0) (ha : AV X es t) (hg : Gl X x := by rfl) (hdb : (x == ("__debug__" : Str)) = false := by decide) (he : starEach (e :: es) X.env = (false, eval e X.env) :: starEach es X.env := by rfl) (hpl : (backTo pos (starEach es X.env)).any (·.1) = false := by rfl) :
    EV X (.Call (.Name x p) (e :: es) [] pos) (callN F f0 t) := fun B => by
  obtain ⟨fa, fd, a, b, c, d, _⟩ := Hd
  exact PE.weak (pe_call a hr hg b c d .nil pass0 (pa_cons (h0 B) (pa_anyB ha) he) hdb he hpl) (callN_ok hn (fun _ _ _ h => h) fun B σ H Q h => ⟨B, h⟩)
end
end DL
/-! ### sorted of lists and tuples: ints, tuples of ints, one thing of any kind -/
namespace DLT
open PySem PySem.Spec PyProof.Rows L2 SrtO
section
variable {prog : Program} {w : World} {A : Around} {E : Value → Shared → Prop} {s : Shared}
theorem collect_tup {l : Addr} {vs : List Value} {Q : List Value → Shared → Prop} (hl : s.heap.IsTuple l vs.toArray)
    (h : Q vs { s with heap := (s.heap.push (seqObj "list" #[] 0)).update s.heap.objs.size (Obj.mapSeq (· ++ vs.toArray)) }) (hsz : vs.length ≤ sizeLine) :
    wpAny (model prog w) A (collect (.ref l)) Q E s := by
  obtain ⟨o, ho, hc, n, hd⟩ := id hl
  unfold collect
  refine wpAny_bind (wpAny_runValue (codeAny_builtin entry_proto_collect' ?_))
  show wpAny _ _ (do again (.builtin "list.__iadd__" ⟨[← newList [], .ref l], []⟩)) _ _ s
  refine wpAny_bind (wpAny_newList (wpAny_pure ⟨Code.quiet_builtin _ (by decide +kernel), codeAny_builtin entry_list_iadd' ?_⟩))
  show wpAny _ _ (Builtin.List.listExtendWith (.ref s.heap.objs.size) (.ref l) (.ref s.heap.objs.size)) _ _ { s with heap := s.heap.push (seqObj "list" #[] 0) }
  unfold Builtin.List.listExtendWith
  have ho' : (s.heap.push (seqObj "list" #[] 0)).get? l = some o := Heap.get?_push_of_some _ ho
  refine wpAny_bind (wpAny_typeOf (T := "tuple") ⟨o, ho', hc⟩ ?_)
  have ht : (Value.type "tuple" == Value.type "tuple") = true := by rfl
  rw [if_pos (by rw [ht]; simp)]
  refine wpAny_bind (listItems_at ho' hd ?_)
  refine wpAny_bind (listItems_at (xs := #[]) (n := 0) (Heap.get?_push_size _ rfl) rfl ?_)
  rw [if_neg (by simp)]
  refine wpAny_bind (listUpdate_at (xs := #[]) (n := 0) (Heap.get?_push_size _ rfl) rfl ?_ (Nat.zero_le _) (by show (#[] ++ vs.toArray).size ≤ sizeLine + 1; simp only [Array.size_append, List.size_toArray, List.length_nil]; omega))
  refine wpAny_pure ?_
  show wpAny (model prog w) A (do
      let o ← load s.heap.objs.size
      match o.data with
      | .seq xs _ => pure xs.toList
      | _ => unsupported "internal:collect") Q E { s with heap := (s.heap.push (seqObj "list" #[] 0)).update s.heap.objs.size (Obj.mapSeq (· ++ vs.toArray)) }
  refine wpAny_bind (wpAny_load (get?_update_seq (Heap.get?_push_size _ rfl) _) ?_)
  show wpAny _ _ (pure ((#[] : Array Value) ++ vs.toArray).toList) Q E _
  rw [show ((#[] : Array Value) ++ vs.toArray).toList = vs by simp]
  exact wpAny_pure h
/-- sorted(l) of a list or a tuple -/
theorem sorted_ordA {l : Addr} {vs : List Value} {ltv : Value → Value → Bool} {Q : Value → Shared → Prop} (O : Swo ltv) (hl : s.heap.IsList l vs.toArray ∨ s.heap.IsTuple l vs.toArray) (hz : vs.length ≤ sizeLine)
    (hS : 2 ≤ vs.length → ∀ (h₁ : Heap) (a : Addr), h₁.get? a = some (seqObj "list" vs.toArray 0) → (∀ b o, s.heap.get? b = some o → b ≠ a ∧ h₁.get? b = some o) → SortableO prog w A.in1.in1 { s with heap := h₁ } a vs ltv)
    (h : ∀ out : List Value, Srtd ltv out → Stb ltv out vs → Q (.ref (s.heap.objs.size + 1)) { s with heap := sortedAll s.heap vs out.toArray }) :
    wpAny (model prog w) A (call (.builtin "sorted") [.ref l]) Q E s := by
  rcases hl with hl | hl
  · exact sorted_ord O hl hz hS h
  refine Calls.call_function_entry kind_sorted plain_sorted entry_sorted (args_sorted1 _) ?_
  unfold Builtin.«sorted»
  refine wpAny_bind (m := checkCount "sorted" 1 1 _) (wpAny_pure ?_)
  refine wpAny_bind (collect_tup hl ?_ hz)
  refine wpAny_bind (wpAny_newList ?_ hz)
  have hsz : ((s.heap.push (seqObj "list" #[] 0)).update s.heap.objs.size (Obj.mapSeq (· ++ vs.toArray))).objs.size = s.heap.objs.size + 1 := by
    rw [Heap.size_update, size_push']
  have hoL : (((s.heap.push (seqObj "list" #[] 0)).update s.heap.objs.size (Obj.mapSeq (· ++ vs.toArray))).push (seqObj "list" vs.toArray 0)).get? (s.heap.objs.size + 1) = some (seqObj "list" vs.toArray 0) := by
    rw [← hsz]; exact Heap.get?_push_size _ rfl
  have keep : ∀ b o, s.heap.get? b = some o → b ≠ s.heap.objs.size + 1 ∧ (((s.heap.push (seqObj "list" #[] 0)).update s.heap.objs.size (Obj.mapSeq (· ++ vs.toArray))).push (seqObj "list" vs.toArray 0)).get? b = some o := fun b o q => by
    have hlt : b < s.heap.objs.size := Heap.lt_size q
    refine ⟨Nat.ne_of_lt (Nat.lt_succ_of_lt hlt), Heap.get?_push_of_some _ ?_⟩
    rw [Heap.get?_update_ne _ _ _ _ (Nat.ne_of_lt hlt)]
    exact Heap.get?_push_of_some _ q
  show wpAny _ _ _ _ _ { s with heap := ((s.heap.push (seqObj "list" #[] 0)).update s.heap.objs.size (Obj.mapSeq (· ++ vs.toArray))).push (seqObj "list" vs.toArray 0) }
  rw [hsz]
  refine wpAny_bind (wpAny_holding (wpAny_call_entry slot_list_sort ⟨_, hoL, rfl⟩ entry_list_sort (list_sort_ord O hoL hz (fun h2 => hS h2 _ _ hoL keep) fun out hs hb => ⟨_, rfl, ?_⟩) (args_list_sort _)))
  exact wpAny_pure ⟨_, rfl, h out hs hb⟩
end
/-- a list or a tuple -/
abbrev SqA (K : PySem.W.Frag) (H : Hp) (a : Addr) (vs : List V) : Prop := SqT K H a vs ∨ SqL K H a vs
theorem sqA_in {X : Cx} {pins : List (Addr × Obj)} {s : Shared} {σ : L2.St} {H : Hp} {a : Addr} {vs : List V} (I : Inv X pins σ H s) (h : SqA X.K H a vs) : ∃ its : List Value, Vals vs its ∧ (s.heap.IsList a its.toArray ∨ s.heap.IsTuple a its.toArray) ∧ vs.length ≤ sizeLine := by
  rcases h with h | h
  · obtain ⟨its, rv, hl, hz⟩ := I.tuple h
    exact ⟨its, rv, .inr hl, hz⟩
  · obtain ⟨its, rv, hl, hz⟩ := I.list h
    exact ⟨its, rv, .inl hl.isList, hz⟩
def rSrtI (K : PySem.W.Frag) : List V → Hp → VK → Prop := fun vs H Q => ∃ (a : Addr) (ns : List Int), vs = [V.ref a] ∧ SqA K H a (ns.map V.int) ∧
  ∀ (ns' : List Int) (p : Addr), ns'.Perm ns → ns'.Pairwise (· ≤ ·) → H p = none → Q (.ref p) (upd H p (.lst (ns'.map V.int)))
theorem cr_srtI {X : Cx} : CallR X (.builtin "sorted") (rSrtI X.K) := by
  intro pins s σ H vs us Q I r h
  obtain ⟨a, ns, rfl, hs, q⟩ := h
  obtain ⟨its, rv, hl, hz⟩ := sqA_in I hs
  rw [Vals.ref1 r]
  have hi := rv.ints
  refine sorted_ordA SrtO.swo_int hl (by rw [← rv.length]; exact hz) (fun h2 h₁ a' _ _ => SrtO.ints_sortable hi h2) fun out h1 h2 => ?_
  obtain ⟨k1, k2, k3⟩ := SrtO.ints_out hi h1 h2
  obtain ⟨ep, he'⟩ := PyProof.Rows.sortedAll_at s.heap its out.toArray
  have hlen : ((out.map SrtO.iv).map V.int).length ≤ sizeLine := by
    rw [List.length_map, k2.length_eq]
    rw [List.length_map] at hz
    exact hz
  exact ⟨.ref _, upd H (s.heap.objs.size + 1) (.lst ((out.map SrtO.iv).map V.int)), I.laid (t' := s.toks) (fun _ _ => PyProof.Rows.sortedAll_old) (Nat.le_succ _) ⟨hlen, out, ep, vals_of_ints k1, he'⟩, rfl, q _ _ k2 k3 (I.hok.fresh (Nat.le_succ _))⟩
/-- at most one thing -/
def rSrt1 (K : PySem.W.Frag) : List V → Hp → VK → Prop := fun vs H Q => ∃ (a : Addr) (xs : List V), vs = [V.ref a] ∧ SqA K H a xs ∧ xs.length ≤ 1 ∧ ∀ p : Addr, H p = none → Q (.ref p) (upd H p (.lst xs))
theorem perm_one {α : Type} : ∀ {xs ys : List α}, ys.length ≤ 1 → xs.Perm ys → xs = ys
  | xs, [], _, h => by simpa using h
  | xs, [y], _, h => by simpa using h
  | _, _ :: _ :: _, h, _ => by simp at h
theorem cr_srt1 {X : Cx} : CallR X (.builtin "sorted") (rSrt1 X.K) := by
  intro pins s σ H vs us Q I r h
  obtain ⟨a, xs, rfl, hs, h1, q⟩ := h
  obtain ⟨its, rv, hl, hz⟩ := sqA_in I hs
  rw [Vals.ref1 r]
  have hli : its.length ≤ 1 := by rw [← rv.length]; exact h1
  refine sorted_ordA SrtO.swo_int hl (by rw [← rv.length]; exact hz) (fun h2 h₁ a' _ _ => absurd h2 (by omega)) fun out _ h2 => ?_
  have ho : out = its := perm_one hli h2.perm
  subst ho
  obtain ⟨ep, he'⟩ := PyProof.Rows.sortedAll_at s.heap out out.toArray
  exact ⟨.ref _, upd H (s.heap.objs.size + 1) (.lst xs), I.laid (t' := s.toks) (fun _ _ => PyProof.Rows.sortedAll_old) (Nat.le_succ _) ⟨hz, out, ep, rv, he'⟩, rfl, q _ (I.hok.fresh (Nat.le_succ _))⟩
/-- tuples of ints, none empty -/
def rSrtT (K : PySem.W.Frag) : List V → Hp → VK → Prop := fun vs H Q => ∃ (a : Addr) (ps : List (List Int × V)), vs = [V.ref a] ∧ SqA K H a (ps.map (·.2)) ∧ (∀ q ∈ ps, (∃ t, q.2 = V.ref t ∧ SqT K H t (q.1.map V.int)) ∧ q.1 ≠ []) ∧
  ∀ (qs : List (List Int × V)) p, qs.Perm ps → qs.Pairwise (fun x y => HT.lexLt y.1 x.1 = false) → H p = none → Q (.ref p) (upd H p (.lst (qs.map (·.2))))
theorem cr_srtT {X : Cx} : CallR X (.builtin "sorted") (rSrtT X.K) := by
  intro pins s σ H vs us Q I r h
  obtain ⟨a, ps, rfl, hs, hk, q⟩ := h
  obtain ⟨its, rv, hl, hz⟩ := sqA_in I hs
  rw [Vals.ref1 r]
  let k : V → List Int := fun v => ((ps.find? fun q => decide (q.2 = v)).map (·.1)).getD []
  have hkk : ∀ q ∈ ps, k q.2 = q.1 := fun q hq => by
    show ((ps.find? fun q' => decide (q'.2 = q.2)).map (·.1)).getD [] = q.1
    cases e : ps.find? fun q' => decide (q'.2 = q.2) with
    | none => exact absurd (List.find?_eq_none.mp e q hq) (by simp)
    | some q' =>
      have h1 := List.find?_some e
      have h2 := List.mem_of_find?_eq_some e
      have h3 : q'.2 = q.2 := of_decide_eq_true h1
      obtain ⟨⟨t, e1, s1⟩, _⟩ := hk q hq
      obtain ⟨⟨t', e2, s2⟩, _⟩ := hk q' h2
      rw [h3, e1] at e2
      cases e2
      exact ints_inj (I.tuple_inj s2 s1)
  have hti : ∀ v ∈ its, IsTI s.heap v (k (toV v)) ∧ k (toV v) ≠ [] := fun v hv => by
    obtain ⟨x, hx, rx⟩ := vals_mem rv v hv
    obtain ⟨q, hq, rfl⟩ := List.mem_map.mp hx
    obtain ⟨⟨t, e, ht⟩, hn⟩ := hk q hq
    rw [toV_of rx, hkk q hq]
    refine ⟨?_, hn⟩
    rw [e] at rx
    cases rx
    obtain ⟨its2, r2, ⟨o, ho, hc, n, hd⟩, _⟩ := I.tuple ht
    exact ⟨t, o, its2.toArray, n, rfl, ho, hc, hd, by simpa using r2.ints⟩
  refine sorted_ordA (NtL.swo_lexL fun v => k (toV v)) hl (by rw [← rv.length]; exact hz) (fun h2 h₁ a' ha' kk => ?_) fun out h1 h2 => ?_
  · refine ti_sortable (s := { s with heap := h₁ }) (by omega) (fun v hm => (hti v hm).1.keeps fun b o e _ => (kk b o e).2) (fun v hm => (hti v hm).2) fun o e => ?_
    have e' : some o = some (seqObj "list" its.toArray 0) := e.symm.trans ha'
    cases e'
    intro c
    exact absurd (Value.type.inj c) (by decide)
  · have pm : out.Perm its := h2.perm
    obtain ⟨ep, he'⟩ := PyProof.Rows.sortedAll_at s.heap its out.toArray
    have ro : Vals (out.map toV) out := vals_sub rv fun u hu => pm.mem_iff.mp hu
    have px : (out.map toV).Perm (ps.map (·.2)) := by rw [← vals_toV rv]; exact pm.map toV
    have hlen : (out.map toV).length ≤ sizeLine := by rw [px.length_eq]; exact hz
    have e2 : ((out.map toV).map fun v => (k v, v)).map (·.2) = out.map toV := by rw [List.map_map]; exact List.map_id _
    have e3 : (ps.map (·.2)).map (fun v => (k v, v)) = ps := by
      rw [List.map_map]
      have : ps.map ((fun v => (k v, v)) ∘ fun x => x.2) = ps.map id := List.map_congr_left fun q hq => by
        show (k q.2, q.2) = q
        rw [hkk q hq]
      rw [this, List.map_id]
    have q' := q ((out.map toV).map fun v => (k v, v)) (s.heap.objs.size + 1) (by rw [← e3]; exact px.map _) (by rw [List.pairwise_map, List.pairwise_map]; exact h1) (I.hok.fresh (Nat.le_succ _))
    rw [e2] at q'
    exact ⟨.ref _, upd H (s.heap.objs.size + 1) (.lst (out.map toV)), I.laid (t' := s.toks) (fun _ _ => PyProof.Rows.sortedAll_old) (Nat.le_succ _) ⟨hlen, out, ep, ro, he'⟩, rfl, q'⟩
end DLT
namespace DL
open PySem L2 DLT
section
variable {K : PySem.W.Frag}
def rSrt (K : PySem.W.Frag) : List V → Hp → VK → Prop := fun vs H Q => rSrtI K vs H Q ∨ (rSrt1 K vs H Q ∨ rSrtT K vs H Q)
theorem cr_srt {X : Cx} : CallR X (.builtin "sorted") (rSrt X.K) := CallR.or cr_srtI (CallR.or cr_srt1 cr_srtT)
def sortedG (ds : List D) : Option (List D) := match intsD ds with
  | some ns => some ((sortI ns).map .int)
  | none => if ds.length ≤ 1 then some ds else (rowsD ds).map fun rs => (sortRw rs).map rowD
theorem srt_ok {G H : Hp} {ds es : List D} {p : Addr} {vs : List V} {Q : VK} (hs : Same G H) (l : SqA K H p vs) (r : RepL K G ds vs) (hd : sortedG ds = some es) (k : ∀ p ws, H p = none → RepL K G es ws → Q (.ref p) (upd H p (.lst ws))) : rSrt K [.ref p] H Q := by
  unfold sortedG at hd
  split at hd
  · rename_i ns q
    cases hd
    have e := intsD_eq q
    subst e
    have e2 := r.of_ints
    subst e2
    refine .inl ⟨p, ns, rfl, l, fun ns' q' h1 h2 h3 => ?_⟩
    have e := sortI_uniq h1 h2
    subst e
    exact k q' _ h3 (RepL.ints _)
  · split at hd
    · rename_i h1
      cases hd
      exact .inr (.inl ⟨p, vs, rfl, l, by rw [← r.length]; exact h1, fun q hq => k q vs hq r⟩)
    · cases q : rowsD ds with
      | none => rw [q] at hd; cases hd
      | some rs =>
        rw [q] at hd; cases hd
        obtain ⟨e1, e2⟩ := rowsD_eq q
        subst e1
        obtain ⟨ps, p1, p2, p3⟩ := rows_ps r e2
        refine .inr (.inr ⟨p, ps, rfl, by rw [p2]; exact l, fun q hq => ?_, fun qs p' h1 h2 h3 => ?_⟩)
        · obtain ⟨r1, n1⟩ := p3 q hq
          refine ⟨?_, n1⟩
          unfold rowD at r1
          generalize hw : q.2 = w at r1
          cases r1 with
          | tup a1 a2 => rw [a2.of_ints] at a1; exact ⟨_, rfl, same_t hs a1⟩
        · have e3 : (sortRw rs) = qs.map (·.1) := by
            refine (sortRw_uniq (l' := qs.map (·.1)) ?_ ?_).symm
            · rw [← p1]; exact h1.map _
            · rw [List.pairwise_map]; exact h2
          refine k p' _ h3 ?_
          show RepL K G ((sortRw rs).map rowD) _
          rw [e3]
          exact ps_rep fun q hq => (p3 q (h1.mem_iff.mp hq)).1
theorem l_srt : CallLO K (rSrt K) sortedG := fun G H ds es p vs Q hs l r hd k => srt_ok hs (.inr l) r hd k
def sortedV : List D → Option (List D) := oneL fun d => (seqD d).bind sortedG
theorem d_srt : CallO K (rSrt K) sortedV := fun G H ds es vs Q hs r hd k => by
  unfold sortedV oneL at hd
  split at hd
  · cases r with | cons r1 r2 =>
      cases r2
      obtain ⟨xs, q, hd⟩ := Option.bind_eq_some_iff.mp hd
      · obtain ⟨p, ws, rfl, z, rl⟩ := seq_ok hs r1 q
        exact srt_ok hs z rl hd k
  · cases hd
end
end DL
namespace DL
open PySem L2 DLT
/-! ### tools for reading a def's meaning -/
section
variable {α β : Type} {vs : List Nat} {fi : S → Option (List D × S)} {t : D → S → Option S} {u : S → Option (Bool × S)} {el : S → Option (D × S)} {b : S → Option Fl}
def lcStep (vs : List Nat) (t : D → S → Option S) (u : S → Option (Bool × S)) (el : S → Option (D × S)) (d : D) (s : S) : Option (Option D × S) :=
  (t d s).bind fun s1 => (u s1).bind fun r => match r.1 with | true => (el r.2).map fun q => (some q.1, wipeS vs q.2) | false => some (none, wipeS vs r.2)
theorem lcF_fm (em : α → D) (f : α → Option D) (s : S) : ∀ (xs : List α) (acc : List D), acc.length + xs.length ≤ 16777216 → (∀ x ∈ xs, lcStep vs t u el (em x) s = some (f x, s)) → lcF vs t u el (xs.map em) acc s = some (acc ++ xs.filterMap f, s)
  | [], acc, _, _ => by simp [lcF]
  | x :: xs, acc, hz, h => by
    have hx := h x List.mem_cons_self
    simp only [List.length_cons] at hz
    unfold lcStep at hx
    rw [List.map_cons]
    unfold lcF
    cases q1 : t (em x) s with
    | none => rw [q1] at hx; cases hx
    | some s1 =>
      rw [q1] at hx
      simp only [Option.bind_some] at hx ⊢
      cases q2 : u s1 with
      | none => rw [q2] at hx; cases hx
      | some r =>
        rw [q2] at hx
        obtain ⟨bb, s2⟩ := r
        simp only [Option.bind_some] at hx ⊢
        cases bb with
        | true =>
          simp only at hx ⊢
          cases q3 : el s2 with
          | none => rw [q3] at hx; cases hx
          | some q =>
            rw [q3] at hx
            simp only [Option.map_some, Option.some.injEq, Prod.mk.injEq] at hx
            simp only [Option.bind_some]
            have hz2 : szOk (acc.length + 1) = true := decide_eq_true (by omega)
            rw [if_pos hz2, hx.2, lcF_fm em f s xs (acc ++ [q.1]) (by simp; omega) fun y hy => h y (List.mem_cons_of_mem _ hy), List.filterMap_cons, ← hx.1]
            simp
        | false =>
          simp only [Option.some.injEq, Prod.mk.injEq] at hx ⊢
          rw [hx.2, lcF_fm em f s xs acc (by omega) fun y hy => h y (List.mem_cons_of_mem _ hy), List.filterMap_cons, ← hx.1]
theorem lcS_fm {s s1 : S} (em : α → D) (f : α → Option D) (xs : List α) (hfi : fi s = some (xs.map em, s1)) (hz : xs.length ≤ 16777216) (h : ∀ x ∈ xs, lcStep vs t u el (em x) (wipeS vs s1) = some (f x, wipeS vs s1)) :
    lcS vs fi t u el s = some (xs.filterMap f, backS vs s1 (wipeS vs s1)) := by
  unfold lcS
  rw [hfi]
  simp only [Option.bind_some]
  rw [lcF_fm em f _ xs [] (by simpa using hz) h]
  simp
theorem lcS_map {s s1 : S} (em : α → D) (f : α → D) (xs : List α) (hfi : fi s = some (xs.map em, s1)) (hz : xs.length ≤ 16777216) (h : ∀ x ∈ xs, lcStep vs t u el (em x) (wipeS vs s1) = some (some (f x), wipeS vs s1)) :
    lcS vs fi t u el s = some (xs.map f, backS vs s1 (wipeS vs s1)) := by
  rw [lcS_fm em (fun x => some (f x)) xs hfi hz h]
  simp [List.filterMap_eq_map']
theorem fm_flt {γ : Type} (p : α → Bool) (e : α → γ) (xs : List α) : xs.filterMap (fun x => if p x then some (e x) else none) = (xs.filter p).map e := by
  induction xs with
  | nil => rfl
  | cons x xs ih =>
    by_cases h : p x = true
    · simp [h, ih]
    · simp [h, ih]
theorem lcS_flt {s s1 : S} (em : α → D) (p : α → Bool) (e : α → D) (xs : List α) (hfi : fi s = some (xs.map em, s1)) (hz : xs.length ≤ 16777216) (h : ∀ x ∈ xs, lcStep vs t u el (em x) (wipeS vs s1) = some (if p x then some (e x) else none, wipeS vs s1)) :
    lcS vs fi t u el s = some ((xs.filter p).map e, backS vs s1 (wipeS vs s1)) := by
  rw [lcS_fm em _ xs hfi hz h, fm_flt]
/-! loops -/
inductive Go (β : Type) where
  | go (b : β) | stop (b : β) | ret (b : β) (d : D)
def foldG (f : β → α → Go β) : List α → β → Go β
  | [], b => .go b
  | x :: xs, b => match f b x with
    | .go b' => foldG f xs b'
    | .stop b' => .go b'
    | .ret b' d => .ret b' d
/-- what a turn of a loop comes to -/
def TurnIs (St : β → S → Prop) (o : Option Fl) : Go β → Prop
  | .go b => ∃ s, (o = some (.nx s) ∨ o = some (.ct s)) ∧ St b s
  | .stop b => ∃ s, o = some (.bk s) ∧ St b s
  | .ret b d => ∃ s, o = some (.rt d s) ∧ St b s
def LoopIs (St : β → S → Prop) (o : Option Fl) : Go β → Prop
  | .go b => ∃ s, o = some (.nx s) ∧ St b s
  | .stop b => ∃ s, o = some (.nx s) ∧ St b s
  | .ret b d => ∃ s, o = some (.rt d s) ∧ St b s
theorem forF_go (em : α → D) (St : β → S → Prop) (f : β → α → Go β) : ∀ (xs : List α) (b0 : β) (s0 : S), (∀ x ∈ xs, ∀ b' s, St b' s → TurnIs St ((t (em x) s).bind b) (f b' x)) → St b0 s0 → LoopIs St (forF t b (xs.map em) s0) (foldG f xs b0)
  | [], b0, s0, _, h0 => ⟨s0, rfl, h0⟩
  | x :: xs, b0, s0, h, h0 => by
    have hx := h x List.mem_cons_self b0 s0 h0
    rw [List.map_cons]
    unfold forF foldG
    cases q1 : t (em x) s0 with
    | none =>
      rw [q1] at hx
      cases q : f b0 x <;> rw [q] at hx <;> obtain ⟨s, e, _⟩ := hx
      · rcases e with e | e <;> cases e
      · cases e
      · cases e
    | some s1 =>
      rw [q1] at hx
      simp only [Option.bind_some] at hx ⊢
      cases q : f b0 x with
      | go b' =>
        rw [q] at hx
        obtain ⟨s, e, hs⟩ := hx
        rcases e with e | e
        · rw [e]; exact forF_go em St f xs b' s (fun y hy => h y (List.mem_cons_of_mem _ hy)) hs
        · rw [e]; exact forF_go em St f xs b' s (fun y hy => h y (List.mem_cons_of_mem _ hy)) hs
      | stop b' =>
        rw [q] at hx
        obtain ⟨s, e, hs⟩ := hx
        rw [e]; exact ⟨s, rfl, hs⟩
      | ret b' d =>
        rw [q] at hx
        obtain ⟨s, e, hs⟩ := hx
        rw [e]; exact ⟨s, rfl, hs⟩
/-- a loop that goes on to its end -/
theorem forF_fold (em : α → D) (St : β → S → Prop) (f : β → α → β) : ∀ (xs : List α) (b0 : β) (s0 : S), (∀ x ∈ xs, ∀ b' s, St b' s → ∃ s', ((t (em x) s).bind b = some (.nx s') ∨ (t (em x) s).bind b = some (.ct s')) ∧ St (f b' x) s') → St b0 s0 → ∃ s', forF t b (xs.map em) s0 = some (.nx s') ∧ St (xs.foldl f b0) s'
  | [], b0, s0, _, h0 => ⟨s0, rfl, h0⟩
  | x :: xs, b0, s0, h, h0 => by
    obtain ⟨s', hx, hs⟩ := h x List.mem_cons_self b0 s0 h0
    rw [List.map_cons, List.foldl_cons]
    unfold forF
    cases q1 : t (em x) s0 with
    | none => rw [q1] at hx; rcases hx with e | e <;> cases e
    | some s1 =>
      rw [q1] at hx
      simp only [Option.bind_some] at hx ⊢
      rcases hx with e | e
      · rw [e]; exact forF_fold em St f xs _ s' (fun y hy => h y (List.mem_cons_of_mem _ hy)) hs
      · rw [e]; exact forF_fold em St f xs _ s' (fun y hy => h y (List.mem_cons_of_mem _ hy)) hs
end
/-- a loop that keeps something -/
theorem forF_inv {α : Type} {t : D → S → Option S} {b : S → Option Fl} (em : α → D) (P : S → Prop) : ∀ (xs : List α) (s0 : S), (∀ x ∈ xs, ∀ s, P s → ∃ s', ((t (em x) s).bind b = some (.nx s') ∨ (t (em x) s).bind b = some (.ct s') ∨ (t (em x) s).bind b = some (.bk s')) ∧ P s') → P s0 → ∃ s', forF t b (xs.map em) s0 = some (.nx s') ∧ P s'
  | [], s0, _, h0 => ⟨s0, rfl, h0⟩
  | x :: xs, s0, h, h0 => by
    obtain ⟨s', hx, hs⟩ := h x List.mem_cons_self s0 h0
    rw [List.map_cons]
    unfold forF
    cases q1 : t (em x) s0 with
    | none => rw [q1] at hx; rcases hx with e | e | e <;> cases e
    | some s1 =>
      rw [q1] at hx
      simp only [Option.bind_some] at hx ⊢
      rcases hx with e | e | e
      · rw [e]; exact forF_inv em P xs s' (fun y hy => h y (List.mem_cons_of_mem _ hy)) hs
      · rw [e]; exact forF_inv em P xs s' (fun y hy => h y (List.mem_cons_of_mem _ hy)) hs
      · rw [e]; exact ⟨s', rfl, hs⟩
theorem fors_e {fi : S → Option (List D × S)} {t : D → S → Option S} {b : S → Option Fl} {s s1 : S} {ds : List D} {o : Option Fl} (h1 : fi s = some (ds, s1)) (h2 : forF t b ds s1 = o) : fors fi t b s = o := by unfold fors; rw [h1]; exact h2
theorem seqs_nx {g h : S → Option Fl} {s s' : S} (e : g s = some (.nx s')) : seqs g h s = h s' := by unfold seqs; rw [e]; rfl
theorem seqs_rt {g h : S → Option Fl} {s s' : S} {d : D} (e : g s = some (.rt d s')) : seqs g h s = some (.rt d s') := by unfold seqs; rw [e]; rfl
theorem ifs_t {u : S → Option (Bool × S)} {g h : S → Option Fl} {s s' : S} (e : u s = some (true, s')) : ifs u g h s = g s' := by unfold ifs; rw [e]; rfl
theorem ifs_f {u : S → Option (Bool × S)} {g h : S → Option Fl} {s s' : S} (e : u s = some (false, s')) : ifs u g h s = h s' := by unfold ifs; rw [e]; rfl
theorem setv_e {i : Nat} {f : S → Option (D × S)} {s s' : S} {d : D} (e : f s = some (d, s')) : setv i f s = some (.nx (s'.setv i d)) := by unfold setv; rw [e]; rfl
theorem seto_e {i : Nat} {f : S → Option (List D × S)} {s s' : S} {d : List D} (e : f s = some (d, s')) : seto i f s = some (.nx (s'.setO i d)) := by unfold seto; rw [e]; rfl
theorem drop1_e {f : S → Option (D × S)} {s s' : S} {d : D} (e : f s = some (d, s')) : drop1 f s = some (.nx s') := by unfold drop1; rw [e]; rfl
theorem retv_e {f : S → Option (D × S)} {s s' : S} {d : D} (e : f s = some (d, s')) : retv f s = some (.rt d s') := by unfold retv; rw [e]; rfl
theorem runV_e {g : S → Option Fl} {np n : Nat} {ds : List D} {o : Option Fl} {r : Option Rt} (s : S) (hl : ds.length = np) (hs : entV n ds = s) (h : g s = o) (hr : endV o = r) : runV g np n ds = r := by
  unfold runV; rw [if_pos hl, hs, h, hr]
theorem runI_e {g : S → Option Fl} {np n : Nat} {m ds : List D} {o : Option Fl} {r : Option (Rt × List D)} (s : S) (hl : ds.length + 1 = np) (hs : entI n m ds = s) (h : g s = o) (hr : endI o = r) : runI g np n m ds = r := by
  unfold runI; rw [if_pos hl, hs, h, hr]
theorem itRd_e {f : S → Option (List D × S)} {s s' : S} {i j : Int} (hf : f s = some ([.int i, .int j, .int (-1)], s')) (z1 : r62 i = true) (z2 : r62 j = true) : itRd f s = some (rngC i (-1) (i - j).toNat, s') := by
  unfold itRd
  rw [hf]
  have : (decide ((-1 : Int) = -1) && r62 i && r62 j) = true := by rw [z1, z2]; rfl
  exact if_pos this
theorem itR1_e {f : S → Option (List D × S)} {s s' : S} {i : Int} (hf : f s = some ([.int i], s')) (z1 : r62 i = true) : itR1 f s = some (rng 0 i.toNat, s') := by
  unfold itR1
  rw [hf]
  exact if_pos z1
theorem itR2_e {f : S → Option (List D × S)} {s s' : S} {i j : Int} (hf : f s = some ([.int i, .int j], s')) (z1 : r62 i = true) (z2 : r62 j = true) : itR2 f s = some (rng i (j - i).toNat, s') := by
  unfold itR2
  rw [hf]
  have : (r62 i && r62 j) = true := by rw [z1, z2]; rfl
  exact if_pos this
theorem r62_s (i : Int) (h : -1000000000 ≤ i) (h2 : i ≤ 1000000000) : r62 i = true := decide_eq_true (by omega)
/-! ### small facts -/
theorem isi_int (i : Int) (c : String) : isiD [.int i, .ty c] = (kitB "int" c).map .bl := rfl
theorem isi_bl (i : Bool) (c : String) : isiD [.bl i, .ty c] = (kitB "bool" c).map .bl := rfl
theorem isi_tup (i : List D) (c : String) : isiD [.tup i, .ty c] = (kitB "tuple" c).map .bl := rfl
theorem isi_lst (i : List D) (c : String) : isiD [.lst i, .ty c] = (kitB "list" c).map .bl := rfl
theorem isi_str (i : Str) (c : String) : isiD [.str i, .ty c] = (kitB "str" c).map .bl := rfl
theorem isi_non (c : String) : isiD [.non, .ty c] = (kitB "NoneType" c).map .bl := rfl
theorem kb_ii : kitB "int" "int" = some true := by decide +kernel
theorem kb_ib : kitB "int" "bool" = some false := by decide +kernel
theorem kb_is : kitB "int" "str" = some false := by decide +kernel
theorem kb_it : kitB "int" "tuple" = some false := by decide +kernel
theorem kb_il : kitB "int" "list" = some false := by decide +kernel
theorem kb_bi : kitB "bool" "int" = some true := by decide +kernel
theorem kb_bb : kitB "bool" "bool" = some true := by decide +kernel
theorem kb_bs : kitB "bool" "str" = some false := by decide +kernel
theorem kb_bt : kitB "bool" "tuple" = some false := by decide +kernel
theorem kb_bl : kitB "bool" "list" = some false := by decide +kernel
theorem kb_ti : kitB "tuple" "int" = some false := by decide +kernel
theorem kb_tb : kitB "tuple" "bool" = some false := by decide +kernel
theorem kb_ts : kitB "tuple" "str" = some false := by decide +kernel
theorem kb_tt : kitB "tuple" "tuple" = some true := by decide +kernel
theorem kb_tl : kitB "tuple" "list" = some false := by decide +kernel
theorem kb_li : kitB "list" "int" = some false := by decide +kernel
theorem kb_lb : kitB "list" "bool" = some false := by decide +kernel
theorem kb_ls : kitB "list" "str" = some false := by decide +kernel
theorem kb_lt : kitB "list" "tuple" = some false := by decide +kernel
theorem kb_ll : kitB "list" "list" = some true := by decide +kernel
theorem kb_si : kitB "str" "int" = some false := by decide +kernel
theorem kb_sb : kitB "str" "bool" = some false := by decide +kernel
theorem kb_ss : kitB "str" "str" = some true := by decide +kernel
theorem kb_st : kitB "str" "tuple" = some false := by decide +kernel
theorem kb_sl : kitB "str" "list" = some false := by decide +kernel
theorem kb_ni : kitB "NoneType" "int" = some false := by decide +kernel
theorem kb_nb : kitB "NoneType" "bool" = some false := by decide +kernel
theorem kb_ns : kitB "NoneType" "str" = some false := by decide +kernel
theorem kb_nt : kitB "NoneType" "tuple" = some false := by decide +kernel
theorem kb_nl : kitB "NoneType" "list" = some false := by decide +kernel
/-! the data that == takes -/
theorem toPys_ints : ∀ ns : List Int, toPys (ns.map .int) = some (ns.map PyData.int)
  | [] => by simp [toPys]
  | n :: r => by simp [toPys, toPy, toPys_ints r]
theorem toPy_row (ns : List Int) : toPy (.tup (ns.map .int)) = some (.tuple (ns.map PyData.int)) := by simp [toPy, toPys_ints]
theorem toPy_lst (ns : List Int) : toPy (.lst (ns.map .int)) = some (.list (ns.map PyData.int)) := by simp [toPy, toPys_ints]
theorem canLay_ints : ∀ ns : List Int, PyData.canLayAll0 (ns.map PyData.int) = true
  | [] => by simp [PyData.canLayAll0]
  | n :: r => by simp [PyData.canLayAll0, PyData.canLay0, canLay_ints r]
theorem depth_ints : ∀ ns : List Int, PyData.depthAll (ns.map PyData.int) = 0
  | [] => by simp [PyData.depthAll]
  | n :: r => by simp [PyData.depthAll, PyData.depth, depth_ints r]
theorem eqv_ints : ∀ a b : List Int, PyData.eqvAll (a.map .int) (b.map .int) = decide (a = b)
  | [], [] => by simp [PyData.eqvAll]
  | [], y :: b => by simp [PyData.eqvAll]
  | x :: a, [] => by simp [PyData.eqvAll]
  | x :: a, y :: b => by
    rw [List.map_cons, List.map_cons, PyData.eqvAll, eqv_ints a b, PyData.eqv]
    by_cases h : x = y
    · subst h; simp
    · simp [h]
theorem shaped_row (ns : List Int) : SeqAt.shaped (.tuple (ns.map PyData.int)) = true := by simp [SeqAt.shaped, PyData.canLay0, PyData.depth, canLay_ints, depth_ints]
theorem shaped_lst (ns : List Int) : SeqAt.shaped (.list (ns.map PyData.int)) = true := by simp [SeqAt.shaped, PyData.canLay0, PyData.depth, canLay_ints, depth_ints]
theorem eqB_row (a b : List Int) : eqB (.tup (a.map .int)) (.tup (b.map .int)) = some (decide (a = b)) := by
  simp [eqB, toPy_row, shaped_row, PyData.eqv, eqv_ints]
theorem eqB_lst (a b : List Int) : eqB (.lst (a.map .int)) (.lst (b.map .int)) = some (decide (a = b)) := by
  simp [eqB, toPy_lst, shaped_lst, PyData.eqv, eqv_ints]
theorem eqB_int (a b : Int) : eqB (.int a) (.int b) = some (decide (a = b)) := by
  simp [eqB, toPy, SeqAt.shaped, PyData.canLay0, PyData.depth, PyData.eqv]
  by_cases h : a = b <;> simp [h]
theorem eqB_bl (a b : Bool) : eqB (.bl a) (.bl b) = some (decide (a = b)) := by
  simp [eqB, toPy, SeqAt.shaped, PyData.canLay0, PyData.depth, PyData.eqv]
  cases a <;> cases b <;> rfl
theorem eqB_row0 (a : List Int) : eqB (.tup (a.map .int)) (.tup []) = some (decide (a = [])) := eqB_row a []
/-! tuples of rows -/
theorem toPys_rows : ∀ rs : List (List Int), toPys (rs.map rowD) = some (rs.map fun r => PyData.tuple (r.map .int))
  | [] => by simp [toPys]
  | n :: r => by
    rw [List.map_cons, List.map_cons, toPys, toPys_rows r, show rowD n = .tup (n.map .int) from rfl, toPy_row]
    rfl
theorem canLay_rows : ∀ rs : List (List Int), PyData.canLayAll0 (rs.map fun r => PyData.tuple (r.map .int)) = true
  | [] => by simp [PyData.canLayAll0]
  | n :: r => by
    have := canLay_rows r
    simp only [List.map_cons, PyData.canLayAll0, PyData.canLay0, canLay_ints, this, Bool.and_self]
theorem depth_rows : ∀ rs : List (List Int), PyData.depthAll (rs.map fun r => PyData.tuple (r.map .int)) ≤ 1
  | [] => by simp [PyData.depthAll]
  | n :: r => by
    have := depth_rows r
    simp only [List.map_cons, PyData.depthAll, PyData.depth, depth_ints]
    omega
theorem eqv_rows : ∀ a b : List (List Int), PyData.eqvAll (a.map fun r => PyData.tuple (r.map .int)) (b.map fun r => PyData.tuple (r.map .int)) = decide (a = b)
  | [], [] => by simp [PyData.eqvAll]
  | [], y :: b => by simp [PyData.eqvAll]
  | x :: a, [] => by simp [PyData.eqvAll]
  | x :: a, y :: b => by
    rw [List.map_cons, List.map_cons, PyData.eqvAll, eqv_rows a b, PyData.eqv, eqv_ints]
    by_cases h : x = y
    · subst h; simp
    · simp [h]
theorem shaped_rows (rs : List (List Int)) : SeqAt.shaped (.tuple (rs.map fun r => PyData.tuple (r.map .int))) = true := by
  have := depth_rows rs
  simp only [SeqAt.shaped, PyData.canLay0, PyData.depth, canLay_rows, Bool.true_and]
  exact decide_eq_true (Nat.le_trans (Nat.succ_le_succ this) (show 1 + 1 ≤ 64 by decide))
theorem shaped_rowsL (rs : List (List Int)) : SeqAt.shaped (.list (rs.map fun r => PyData.tuple (r.map .int))) = true := by
  have := depth_rows rs
  simp only [SeqAt.shaped, PyData.canLay0, PyData.depth, canLay_rows, Bool.true_and]
  exact decide_eq_true (Nat.le_trans (Nat.succ_le_succ this) (show 1 + 1 ≤ 64 by decide))
theorem eqB_rows (a b : List (List Int)) : eqB (.tup (a.map rowD)) (.tup (b.map rowD)) = some (decide (a = b)) := by
  simp [eqB, toPy, toPys_rows, shaped_rows, PyData.eqv, eqv_rows]
theorem eqB_rowsL (a b : List (List Int)) : eqB (.lst (a.map rowD)) (.lst (b.map rowD)) = some (decide (a = b)) := by
  simp [eqB, toPy, toPys_rows, shaped_rowsL, PyData.eqv, eqv_rows]
theorem inB_rows (a : List Int) (b : List (List Int)) : inB (.tup (a.map .int)) (.tup (b.map rowD)) = some (decide (a ∈ b)) := by
  unfold inB
  rw [toPy_row, show seqD (.tup (b.map rowD)) = some (b.map rowD) from rfl]
  simp only [Option.bind_some, toPys_rows, shaped_row, shaped_rowsL, Bool.and_self, if_true, Option.some.injEq]
  induction b with
  | nil => simp
  | cons x b ih =>
    rw [List.map_cons, List.any_cons, ih, PyData.eqv, eqv_ints]
    by_cases h : x = a
    · subst h; simp
    · have : ¬ a = x := fun e => h e.symm
      simp [h, this]
theorem rowsD_map : ∀ rs : List (List Int), (∀ r ∈ rs, r ≠ []) → rowsD (rs.map rowD) = some rs
  | [], _ => rfl
  | r :: rs, h => by
    have h1 := h r List.mem_cons_self
    have h2 := rowsD_map rs fun r' h' => h r' (List.mem_cons_of_mem _ h')
    rw [List.map_cons, rowsD, h2]
    simp [intsT, rowD, intsD_map, h1]
theorem sortedG_ints (ns : List Int) : sortedG (ns.map .int) = some ((sortI ns).map .int) := by unfold sortedG; rw [intsD_map]
theorem sortedG_rows (rs : List (List Int)) (h : ∀ r ∈ rs, r ≠ []) : sortedG (rs.map rowD) = some ((sortRw rs).map rowD) := by
  unfold sortedG
  cases rs with
  | nil => rfl
  | cons r rs =>
    have : intsD ((r :: rs).map rowD) = none := rfl
    rw [this]
    simp only
    split
    · rename_i hl
      cases rs with
      | nil => rfl
      | cons _ _ => simp at hl
    · rw [rowsD_map _ h]; rfl
theorem subD_e (i j : Int) : subD (.int i) (.int j) = some (.int (i - j)) := rfl
theorem ltD_e (i j : Int) : ltD (.int i) (.int j) = some (.bl (decide (i < j))) := rfl
theorem leD_e (i j : Int) : leD (.int i) (.int j) = some (.bl (decide (i ≤ j))) := rfl
theorem gtD_e (i j : Int) : gtD (.int i) (.int j) = some (.bl (decide (j < i))) := rfl
theorem geD_e (i j : Int) : geD (.int i) (.int j) = some (.bl (decide (j ≤ i))) := rfl
theorem modD_e (i j : Int) : modD (.int i) (.int j) = if 0 < j then some (.int (i % j)) else none := rfl
theorem fdivD_e (i j : Int) : fdivD (.int i) (.int j) = if (decide (0 < j) && decide (j.natAbs < 2 ^ 9000)) = true then some (.int (i / j)) else none := rfl
theorem powD_e (i j : Int) : powD (.int i) (.int j) = if (decide (0 ≤ j) && decide (j ≤ 1000000) && decide (i.natAbs < 2 ^ 64)) = true then some (.int (i ^ j.toNat)) else none := rfl
theorem mulT_i (i j : Int) : mulT (.int i) (.int j) = if mulOk i j = true then some (.int (i * j)) else none := rfl
theorem mulT_l (xs : List D) (k : Int) : mulT (.lst xs) (.int k) = if (decide (k.natAbs < 2 ^ 63) && szOk (xs.length * k.toNat)) = true then some (.lst (List.replicate k.toNat xs).flatten) else none := rfl
theorem mulT_t (xs : List D) (k : Int) : mulT (.tup xs) (.int k) = if (decide (-1000000 ≤ k) && decide (k ≤ 1000) && decide (xs.length ≤ 1000)) = true then some (.tup (List.replicate k.toNat xs).flatten) else none := rfl
theorem addD_i (i j : Int) : addD (.int i) (.int j) = some (.int (i + j)) := rfl
theorem addD_l (xs ys : List D) : addD (.lst xs) (.lst ys) = if szOk (xs.length + ys.length) = true then some (.lst (xs ++ ys)) else none := rfl
theorem addD_t (xs ys : List D) : addD (.tup xs) (.tup ys) = if szOk (xs.length + ys.length) = true then some (.tup (xs ++ ys)) else none := rfl
theorem lenD_t (ds : List D) : lenD [.tup ds] = some (.int ds.length) := rfl
theorem lenD_l (ds : List D) : lenD [.lst ds] = some (.int ds.length) := rfl
theorem lenD_f (ds : List D) : lenD [.fl ds] = some (.int ds.length) := rfl
theorem tupD_t (ds : List D) : tupD [.tup ds] = some (.tup ds) := rfl
theorem tupD_l (ds : List D) : tupD [.lst ds] = some (.tup ds) := rfl
theorem tupD_f (ds : List D) : tupD [.fl ds] = some (.tup ds) := rfl
theorem listD_t (ds : List D) : listD [.tup ds] = some ds := rfl
theorem listD_l (ds : List D) : listD [.lst ds] = some ds := rfl
theorem listD_f (ds : List D) : listD [.fl ds] = some ds := rfl
theorem intD_i (i : Int) : DL.intD [.int i] = some (.int i) := rfl
theorem intD_b (b : Bool) : DL.intD [.bl b] = some (.int (if b then 1 else 0)) := rfl
theorem absD_e (i : Int) : absD [.int i] = some (.int (if i < 0 then -i else i)) := rfl
theorem sumD_t (ns : List Int) : sumD [.tup (ns.map .int)] = some (.int ns.sum) := by show (intsD _).map _ = _; rw [intsD_map]; rfl
theorem sumD_l (ns : List Int) : sumD [.lst (ns.map .int)] = some (.int ns.sum) := by show (intsD _).map _ = _; rw [intsD_map]; rfl
theorem ixD_t (ds : List D) (i : Int) : ixD (.tup ds) (.int i) = atI ds i := rfl
theorem ixD_l (ds : List D) (i : Int) : ixD (.lst ds) (.int i) = atI ds i := rfl
theorem ixD_f (ds : List D) (i : Int) : ixD (.fl ds) (.int i) = atI ds i := rfl
theorem sortedV_t (ds : List D) : sortedV [.tup ds] = sortedG ds := rfl
theorem sortedV_l (ds : List D) : sortedV [.lst ds] = sortedG ds := rfl
theorem sortedV_f (ds : List D) : sortedV [.fl ds] = sortedG ds := rfl
theorem allL_yes {α : Type} (xs : List α) : allL ((xs.map fun _ => true).map .bl) = some (.bl true) := by
  have : (xs.map fun _ => true).all id = true := by simp
  rw [allL, boolsD_map]
  simp only [Option.map_some, this]
theorem atI_nat {α : Type} (ds : List α) (i : Nat) (h : i < ds.length) : atI ds (i : Int) = ds[i]? := by
  unfold atI ixN
  rw [if_pos (Int.natCast_nonneg i), if_pos (by omega)]
  rfl
theorem atI_one {α : Type} (d e : α) (ds : List α) : atI (d :: e :: ds) 1 = some e := by
  have := atI_nat (d :: e :: ds) 1 (by simp)
  simpa using this
theorem ixN_zero {n : Nat} (h : 0 < n) : ixN n 0 = some 0 := by unfold ixN; rw [if_pos (by decide), if_pos (by omega)]; rfl
theorem ixN_one {n : Nat} (h : 1 < n) : ixN n 1 = some 1 := by unfold ixN; rw [if_pos (by decide), if_pos (by omega)]; rfl
theorem atI_zero {α : Type} (d : α) (ds : List α) : atI (d :: ds) 0 = some d := by
  have := atI_nat (d :: ds) 0 (by simp)
  simpa using this
end DL
namespace DL
open PySem L2 DLT
section
variable {α β : Type} {t : D → S → Option S} {b : S → Option Fl}
/-- a loop that goes on to its end; what holds may hang on what is left -/
theorem forF_rest (em : α → D) (St : List α → β → S → Prop) (f : β → α → β) : ∀ (xs : List α) (b0 : β) (s0 : S), (∀ x rest b' s, x ∈ xs → St (x :: rest) b' s → ∃ s', ((t (em x) s).bind b = some (.nx s') ∨ (t (em x) s).bind b = some (.ct s')) ∧ St rest (f b' x) s') → St xs b0 s0 → ∃ s', forF t b (xs.map em) s0 = some (.nx s') ∧ St [] (xs.foldl f b0) s'
  | [], b0, s0, _, h0 => ⟨s0, rfl, h0⟩
  | x :: xs, b0, s0, h, h0 => by
    obtain ⟨s', hx, hs⟩ := h x xs b0 s0 List.mem_cons_self h0
    rw [List.map_cons, List.foldl_cons]
    unfold forF
    cases q1 : t (em x) s0 with
    | none => rw [q1] at hx; rcases hx with e | e <;> cases e
    | some s1 =>
      rw [q1] at hx
      simp only [Option.bind_some] at hx ⊢
      rcases hx with e | e
      · rw [e]; exact forF_rest em St f xs _ s' (fun y rest b' s hy => h y rest b' s (List.mem_cons_of_mem _ hy)) hs
      · rw [e]; exact forF_rest em St f xs _ s' (fun y rest b' s hy => h y rest b' s (List.mem_cons_of_mem _ hy)) hs
end
theorem atI_ints (r : List Int) (i : Int) (h0 : 0 ≤ i) (h1 : i < r.length) : atI (r.map D.int) i = some (.int (r.getD i.toNat 0)) := by
  have e : i = (i.toNat : Int) := by omega
  have h2 : i.toNat < r.length := by omega
  rw [e, atI_nat _ _ (by rw [List.length_map]; omega), List.getElem?_map, List.getElem?_eq_getElem h2, List.getD_eq_getElem?_getD, Int.toNat_natCast, List.getElem?_eq_getElem h2]
  rfl
theorem rngC_ints (lo c : Int) (n : Nat) : rngC lo c n = ((List.range n).map fun i => lo + (i : Nat) * c).map D.int := by simp [rngC]
theorem rng_ints (lo : Int) (n : Nat) : rng lo n = ((List.range n).map fun i => lo + (i : Nat)).map D.int := by simp [rng]
/-! ### rows: falling lists of ints from 1 on -/
def Row (r : List Int) : Prop := r.Pairwise (· ≥ ·) ∧ ∀ x ∈ r, 1 ≤ x
theorem sum_perm {a b : List Int} (p : a.Perm b) : a.sum = b.sum := by
  induction p with
  | nil => rfl
  | cons x _ ih => simp [ih]
  | swap x y l => simp; omega
  | trans _ _ h1 h2 => rw [h1, h2]
theorem sum_pos : ∀ {r : List Int}, (∀ x ∈ r, 1 ≤ x) → (r.length : Int) ≤ r.sum
  | [], _ => by simp
  | x :: r, h => by
    have h1 := h x List.mem_cons_self
    have h2 := sum_pos fun y hy => h y (List.mem_cons_of_mem _ hy)
    simp only [List.length_cons, List.sum_cons]
    omega
theorem mem_le_sum : ∀ {r : List Int}, (∀ x ∈ r, 1 ≤ x) → ∀ x ∈ r, x ≤ r.sum
  | y :: r, h, x, hx => by
    have h1 := h y List.mem_cons_self
    have h2 : ∀ y ∈ r, 1 ≤ y := fun y hy => h y (List.mem_cons_of_mem _ hy)
    have h3 := sum_pos h2
    rw [List.sum_cons]
    rcases List.mem_cons.mp hx with e | e
    · subst e; omega
    · have := mem_le_sum h2 x e
      omega
theorem sortR_perm (l : List Int) : (sortR l).Perm l := (List.reverse_perm _).trans (sortI_perm l)
theorem sortR_sorted (l : List Int) : (sortR l).Pairwise (· ≥ ·) := List.pairwise_reverse.mpr (sortI_sorted l)
theorem sortR_self {l : List Int} (h : l.Pairwise (· ≥ ·)) : sortR l = l := (sortR_uniq (.refl _) h).symm
theorem sortR_of_perm {l m : List Int} (p : l.Perm m) : sortR l = sortR m := sortR_uniq ((sortR_perm l).trans p) (sortR_sorted l)
theorem sortR_row {l : List Int} (h : ∀ x ∈ l, 1 ≤ x) : Row (sortR l) := ⟨sortR_sorted l, fun x hx => h x ((sortR_perm l).mem_iff.mp hx)⟩
theorem Row.tail {x : Int} {r : List Int} (h : Row (x :: r)) : Row r := ⟨(List.pairwise_cons.mp h.1).2, fun y hy => h.2 y (List.mem_cons_of_mem _ hy)⟩
theorem Row.le {x : Int} {r : List Int} (h : Row (x :: r)) : ∀ y ∈ r, y ≤ x := (List.pairwise_cons.mp h.1).1
theorem Row.head_le {x : Int} {r : List Int} (h : Row (x :: r)) : r.getD 0 0 ≤ x := by
  cases r with
  | nil => have := h.2 x (by simp); simpa using (by omega : (0:Int) ≤ x)
  | cons y r => exact h.le y (by simp)
/-- the parts that are in a row, ascending, each once -/
theorem insU_sum (a : Int) (ha : 0 ≤ a) : ∀ l : List Int, (insU a l).sum ≤ a + l.sum
  | [] => by simp [insU]
  | b :: r => by
    unfold insU
    split
    · simp
    · split
      · simp; omega
      · have := insU_sum a ha r
        simp; omega
theorem sortU_sum : ∀ {l : List Int}, (∀ x ∈ l, 1 ≤ x) → (sortU l).sum ≤ l.sum
  | [], _ => by simp [sortU]
  | a :: r, h => by
    have h1 := h a List.mem_cons_self
    have h2 := sortU_sum fun y hy => h y (List.mem_cons_of_mem _ hy)
    have h3 := insU_sum a (by omega) (sortU r)
    show (insU a (sortU r)).sum ≤ _
    simp; omega
theorem asc_len : ∀ (l : List Int) (k : Int), 0 ≤ k → l.Pairwise (· < ·) → (∀ x ∈ l, k < x) → (l.length : Int) * (l.length + 1) + 2 * k * l.length ≤ 2 * l.sum
  | [], k, _, _, _ => by simp
  | a :: r, k, hk, hp, h => by
    have h1 := h a List.mem_cons_self
    have ih := asc_len r (k + 1) (by omega) (List.pairwise_cons.mp hp).2 fun x hx => by
      have := (List.pairwise_cons.mp hp).1 x hx
      omega
    simp only [List.length_cons, List.sum_cons, Int.natCast_add, Int.natCast_one]
    have e : ((r.length : Int) + 1) * (r.length + 1 + 1) + 2 * k * (r.length + 1) = (r.length : Int) * (r.length + 1) + 2 * (k + 1) * r.length + 2 * (k + 1) := by
      simp only [Int.mul_add, Int.add_mul, Int.mul_one, Int.one_mul]
      omega
    rw [e]
    omega
theorem sortU_len {l : List Int} (h : ∀ x ∈ l, 1 ≤ x) (hs : l.sum ≤ 1900) : (sortU l).length < 64 := by
  have h1 := asc_len (sortU l) 0 (by omega) (sortU_sorted l) fun x hx => by
    have := h x (mem_sortU.mp hx)
    omega
  have h2 := sortU_sum h
  apply Nat.lt_of_not_le
  intro hc
  have h3 : (64 : Int) ≤ ((sortU l).length : Int) := by omega
  have h4 : (64 : Int) * ((sortU l).length + 1) ≤ ((sortU l).length : Int) * ((sortU l).length + 1) := Int.mul_le_mul_of_nonneg_right h3 (by omega)
  simp only [Int.mul_zero, Int.zero_mul, Int.add_zero] at h1
  omega
/-! the turned row -/
def turnF : List Int → Nat → List Int
  | [], _ => []
  | x :: r, k => turnF r (k + 1) ++ List.replicate (x - r.getD 0 0).toNat ((k + 1 : Nat) : Int)
def turn (r : List Int) : List Int := turnF r 0
theorem foldl_app {α β : Type} (g : α → List β) : ∀ (l : List α) (acc : List β), l.foldl (fun acc a => acc ++ g a) acc = acc ++ l.flatMap g
  | [], acc => by simp
  | a :: l, acc => by rw [List.foldl_cons, foldl_app g l, List.flatMap_cons, List.append_assoc]
theorem turnF_flat : ∀ (r : List Int) (k : Nat), turnF r k = (List.range r.length).reverse.flatMap fun i => List.replicate (r.getD i 0 - r.getD (i + 1) 0).toNat ((k + i + 1 : Nat) : Int)
  | [], k => by simp [turnF]
  | x :: r, k => by
    rw [turnF, turnF_flat r (k + 1), List.length_cons, List.range_succ_eq_map, List.reverse_cons, List.flatMap_append]
    congr 1
    · rw [← List.map_reverse, List.flatMap_map]
      congr 1
      funext i
      simp [Nat.add_assoc, Nat.add_comm 1]
    · simp
theorem down_range (n : Nat) : ((List.range n).map fun i => (n : Int) + (i : Nat) * (-1)) = (List.range n).reverse.map fun i => ((i + 1 : Nat) : Int) := by
  apply List.ext_getElem
  · simp
  · intro i h1 h2
    simp at h1 ⊢
    omega
theorem turnF_len : ∀ {r : List Int} (k : Nat), Row r → ((turnF r k).length : Int) = r.getD 0 0
  | [], k, _ => by simp [turnF]
  | x :: r, k, h => by
    have ih := turnF_len (k + 1) h.tail
    have h1 := h.head_le
    rw [turnF, List.length_append, List.length_replicate]
    simp only [Int.natCast_add, ih]
    show _ = x
    omega
theorem turnF_mem : ∀ {r : List Int} (k : Nat), ∀ y ∈ turnF r k, (k : Int) + 1 ≤ y ∧ y ≤ k + r.length
  | [], k, y, h => by simp [turnF] at h
  | x :: r, k, y, h => by
    rw [turnF] at h
    rcases List.mem_append.mp h with h | h
    · have := turnF_mem (k + 1) y h
      simp only [List.length_cons]
      omega
    · have := List.eq_of_mem_replicate h
      simp only [List.length_cons]
      omega
theorem turnF_sorted : ∀ (r : List Int) (k : Nat), (turnF r k).Pairwise (· ≥ ·)
  | [], k => by simp [turnF]
  | x :: r, k => by
    rw [turnF]
    refine List.pairwise_append.mpr ⟨turnF_sorted r (k + 1), List.pairwise_replicate.mpr (.inr (Int.le_refl _)), fun a ha b hb => ?_⟩
    have h1 := turnF_mem (k + 1) a ha
    have h2 := List.eq_of_mem_replicate hb
    show b ≤ a
    omega
theorem sum_rep (n : Nat) (x : Int) : (List.replicate n x).sum = n * x := by
  induction n with
  | zero => simp
  | succ n ih => rw [List.replicate_succ, List.sum_cons, ih, Int.natCast_add, Int.add_mul]; omega
theorem sum_app' : ∀ (a b : List Int), (a ++ b).sum = a.sum + b.sum
  | [], b => by simp
  | x :: a, b => by rw [List.cons_append, List.sum_cons, List.sum_cons, sum_app' a b]; omega
theorem turnF_sum : ∀ {r : List Int} (k : Nat), Row r → (turnF r k).sum = r.sum + k * r.getD 0 0
  | [], k, _ => by simp [turnF]
  | x :: r, k, h => by
    have ih := turnF_sum (k + 1) h.tail
    have h1 := h.head_le
    rw [turnF, sum_app', ih, sum_rep, List.sum_cons]
    have e : (((x - r.getD 0 0).toNat : Nat) : Int) = x - r.getD 0 0 := by omega
    rw [e]
    show _ = x + r.sum + k * x
    generalize r.getD 0 0 = y
    simp only [Int.natCast_add, Int.natCast_one, Int.add_mul, Int.sub_mul, Int.mul_add, Int.mul_sub, Int.one_mul, Int.mul_one]
    have : x * (k : Int) = k * x := Int.mul_comm _ _
    have : y * (k : Int) = k * y := Int.mul_comm _ _
    omega
theorem turnF_head : ∀ {r : List Int} (k : Nat), Row r → r ≠ [] → (turnF r k).getD 0 0 = k + r.length
  | [], k, _, h => absurd rfl h
  | [x], k, h, _ => by
    have := h.2 x (by simp)
    rw [turnF]
    have e : (x - List.getD [] 0 0).toNat = (x.toNat - 1) + 1 := by simp; omega
    rw [e]
    simp [turnF, List.replicate_succ]
  | x :: y :: r, k, h, _ => by
    have ih := turnF_head (k + 1) h.tail (by simp)
    have h2 : turnF (y :: r) (k + 1) ≠ [] := fun e => by
      have := turnF_len (k + 1) h.tail
      rw [e] at this
      have h3 := h.2 y (by simp)
      simp at this; omega
    rw [turnF]
    obtain ⟨z, zs, e⟩ := List.exists_cons_of_ne_nil h2
    rw [e] at ih ⊢
    simp at ih ⊢
    omega
theorem turn_row {r : List Int} : Row (turn r) := ⟨turnF_sorted r 0, fun x hx => by have := turnF_mem 0 x hx; omega⟩
theorem turn_len {r : List Int} (h : Row r) : ((turn r).length : Int) = r.getD 0 0 := turnF_len 0 h
theorem turn_sum {r : List Int} (h : Row r) : (turn r).sum = r.sum := by have := turnF_sum 0 h; simpa [turn] using this
theorem turn_head {r : List Int} (h : Row r) (hn : r ≠ []) : (turn r).getD 0 0 = r.length := by have := turnF_head 0 h hn; simpa [turn] using this
end DL
namespace DL
open PySem L2 DLT
/-! ### a meaning worked out at an input -/
mutual
def beqD : D → D → Bool
  | .non, .non => true
  | .bl a, .bl b => a == b
  | .int a, .int b => decide (a = b)
  | .str a, .str b => decide (a = b)
  | .ty a, .ty b => decide (a = b)
  | .obj a, .obj b => decide (a = b)
  | .tup a, .tup b => beqDs a b
  | .lst a, .lst b => beqDs a b
  | .fl a, .fl b => beqDs a b
  | _, _ => false
def beqDs : List D → List D → Bool
  | [], [] => true
  | a :: r, b :: t => beqD a b && beqDs r t
  | _, _ => false
end
mutual
theorem beqD_eq : ∀ {a b : D}, beqD a b = true → a = b
  | .non, b, h => by cases b <;> simp [beqD] at h ⊢
  | .bl a, b, h => by cases b <;> simp [beqD] at h ⊢ <;> exact h
  | .int a, b, h => by cases b <;> simp [beqD] at h ⊢ <;> exact h
  | .str a, b, h => by cases b <;> simp [beqD] at h ⊢ <;> exact h
  | .ty a, b, h => by cases b <;> simp [beqD] at h ⊢ <;> exact h
  | .obj a, b, h => by cases b <;> simp [beqD] at h ⊢ <;> exact h
  | .tup a, b, h => by cases b <;> simp [beqD] at h ⊢ <;> exact beqDs_eq h
  | .lst a, b, h => by cases b <;> simp [beqD] at h ⊢ <;> exact beqDs_eq h
  | .fl a, b, h => by cases b <;> simp [beqD] at h ⊢ <;> exact beqDs_eq h
theorem beqDs_eq : ∀ {a b : List D}, beqDs a b = true → a = b
  | [], b, h => by cases b <;> simp [beqDs] at h ⊢
  | x :: a, b, h => by
    cases b with
    | nil => simp [beqDs] at h
    | cons y b =>
      simp only [beqDs, Bool.and_eq_true] at h
      rw [beqD_eq h.1, beqDs_eq h.2]
end
def beqR : Option Rt → Option Rt → Bool
  | some (.v a), some (.v b) => beqD a b
  | some (.o a), some (.o b) => beqDs a b
  | _, _ => false
theorem beqR_eq {a b : Option Rt} (h : beqR a b = true) : a = b := by
  unfold beqR at h
  split at h
  · rw [beqD_eq h]
  · rw [beqDs_eq h]
  · cases h
/-- rows -/
def rowsW : Nat → Int → Int → List (List Int)
  | 0, _, _ => []
  | f + 1, n, m => if n = 0 then [[]] else ((List.range (min n m).toNat).map fun i => (1 : Int) + (i : Nat)).flatMap fun p => (rowsW f (n - p) p).map fun r => p :: r
end DL
namespace K65
open PySem L2 DL DLT PyProof.Rows
def top (i : Nat) : Stmt := PySem.Challenge.pw_partleans_k65_across_gardens_ranks_and_h.main.body.getD i (.Pass ⟨0, 0, 0, 0⟩)
/-- what the module's names are -/
structure Nb (mg : Str → Option Value) : Prop where
  n_abs : mg "abs" = none
  n_all : mg "all" = none
  n_bool : mg "bool" = none
  n_enumerate : mg "enumerate" = none
  n_int : mg "int" = none
  n_isinstance : mg "isinstance" = none
  n_len : mg "len" = none
  n_list : mg "list" = none
  n_max : mg "max" = none
  n_min : mg "min" = none
  n_range : mg "range" = none
  n_set : mg "set" = none
  n_sorted : mg "sorted" = none
  n_str : mg "str" = none
  n_sum : mg "sum" = none
  n_tuple : mg "tuple" = none
  n_zip : mg "zip" = none
  g_LEAST_BY : ∃ t, mg "LEAST_BY" = some (.int 2 t)
  g_MOST_BY : ∃ t, mg "MOST_BY" = some (.int 20 t)
  g_MOST_LISTED : ∃ t, mg "MOST_LISTED" = some (.int 24 t)
  g_MOST_SUM : ∃ t, mg "MOST_SUM" = some (.int 600 t)
theorem bt_abs : bootBuiltins "abs" = some (.builtin "abs") := by decide +kernel
theorem bt_all : bootBuiltins "all" = some (.builtin "all") := by decide +kernel
theorem bt_isinstance : bootBuiltins "isinstance" = some (.builtin "isinstance") := by decide +kernel
theorem bt_len : bootBuiltins "len" = some (.builtin "len") := by decide +kernel
theorem bt_max : bootBuiltins "max" = some (.builtin "max") := by decide +kernel
theorem bt_min : bootBuiltins "min" = some (.builtin "min") := by decide +kernel
theorem bt_sorted : bootBuiltins "sorted" = some (.builtin "sorted") := by decide +kernel
theorem bt_sum : bootBuiltins "sum" = some (.builtin "sum") := by decide +kernel
theorem bt_bool : bootBuiltins "bool" = some (.type "bool") := by decide +kernel
theorem bt_enumerate : bootBuiltins "enumerate" = some (.type "enumerate") := by decide +kernel
theorem bt_int : bootBuiltins "int" = some (.type "int") := by decide +kernel
theorem bt_list : bootBuiltins "list" = some (.type "list") := by decide +kernel
theorem bt_range : bootBuiltins "range" = some (.type "range") := by decide +kernel
theorem bt_set : bootBuiltins "set" = some (.type "set") := by decide +kernel
theorem bt_str : bootBuiltins "str" = some (.type "str") := by decide +kernel
theorem bt_tuple : bootBuiltins "tuple" = some (.type "tuple") := by decide +kernel
theorem bt_zip : bootBuiltins "zip" = some (.type "zip") := by decide +kernel
abbrev s_is_integer : Stmt := top 7
abbrev N_is_integer : List Str := ["value"]
abbrev p_is_integer : List Str := ["value"]
theorem sc_is_integer : FnScope N_is_integer p_is_integer (defScope s_is_integer) := ⟨rfl, rfl, rfl, by decide +kernel, rfl, by decide +kernel, by decide +kernel⟩
def g_is_integer : S → Option Fl :=
  (retv (andv (call1 (acons (getv 0) (acons (cst (.ty "int")) anil)) isiD) (notv (call1 (acons (getv 0) (acons (cst (.ty "bool")) anil)) isiD))))
def F_is_integer : List D → Option Rt := runV g_is_integer 1 1
theorem len_is_integer : ∀ ds, F_is_integer ds ≠ none → ds.length = 1 := runV_len
theorem ok_is_integer {P : Program} {w : World} {K : PySem.W.Frag} {mg : Str → Option Value} {base : Heap} (nb : Nb mg) (hat : At K mg "is_integer" s_is_integer p_is_integer)  : Df P w K mg base 1 "is_integer" s_is_integer p_is_integer (spV K 1 F_is_integer) :=
  df_v (k := 0) (N := N_is_integer) hat sc_is_integer (by decide) fun f cdv A outer s H E hr =>
    (show SVs _ (defBody s_is_integer) g_is_integer from
    (svs_one (sv_ret (ev_and (ev_callB call_isi d_isi nb.n_isinstance bt_isinstance (av_cons (ev_var 0) (av_cons (ev_type nb.n_int bt_int) av_nil))) (ev_one (ev_not (ev_callB call_isi d_isi nb.n_isinstance bt_isinstance (av_cons (ev_var 0) (av_cons (ev_type nb.n_bool bt_bool) av_nil)))))))))
abbrev s_is_within_bounds : Stmt := top 8
abbrev N_is_within_bounds : List Str := ["value", "least", "most"]
abbrev p_is_within_bounds : List Str := ["value", "least", "most"]
theorem sc_is_within_bounds : FnScope N_is_within_bounds p_is_within_bounds (defScope s_is_within_bounds) := ⟨rfl, rfl, rfl, by decide +kernel, rfl, by decide +kernel, by decide +kernel⟩
def g_is_within_bounds : S → Option Fl :=
  (retv (andv (callF F_is_integer (acons (getv 0) anil)) (chn (getv 1) (getv 0) (getv 2) leD leD)))
def F_is_within_bounds : List D → Option Rt := runV g_is_within_bounds 3 3
theorem len_is_within_bounds : ∀ ds, F_is_within_bounds ds ≠ none → ds.length = 3 := runV_len
theorem ok_is_within_bounds {P : Program} {w : World} {K : PySem.W.Frag} {mg : Str → Option Value} {base : Heap} (nb : Nb mg) (hat : At K mg "is_within_bounds" s_is_within_bounds p_is_within_bounds) (D_is_integer : Df P w K mg base 1 "is_integer" s_is_integer p_is_integer (spV K 1 F_is_integer)) : Df P w K mg base 2 "is_within_bounds" s_is_within_bounds p_is_within_bounds (spV K 3 F_is_within_bounds) :=
  df_v (k := 1) (N := N_is_within_bounds) hat sc_is_within_bounds (by decide) fun f cdv A outer s H E hr =>
    (show SVs _ (defBody s_is_within_bounds) g_is_within_bounds from
    (svs_one (sv_ret (ev_and (ev_cal D_is_integer (hr.mono (by decide)) len_is_integer (av_cons (ev_var 0) av_nil)) (ev_one (ev_chain op_le op_le d_le d_le (ev_var 1) (ev_var 0) (ev_var 2)))))))
abbrev s_check_within : Stmt := top 9
abbrev N_check_within : List Str := ["value", "least", "most"]
abbrev p_check_within : List Str := ["value", "least", "most"]
theorem sc_check_within : FnScope N_check_within p_check_within (defScope s_check_within) := ⟨rfl, rfl, rfl, by decide +kernel, rfl, by decide +kernel, by decide +kernel⟩
def g_check_within : S → Option Fl :=
  (ifs (nott (tst (callF F_is_within_bounds (acons (getv 0) (acons (getv 1) (acons (getv 2) anil)))))) never nxt)
def F_check_within : List D → Option Rt := runV g_check_within 3 3
theorem len_check_within : ∀ ds, F_check_within ds ≠ none → ds.length = 3 := runV_len
theorem ok_check_within {P : Program} {w : World} {K : PySem.W.Frag} {mg : Str → Option Value} {base : Heap} (nb : Nb mg) (hat : At K mg "check_within" s_check_within p_check_within) (D_is_within_bounds : Df P w K mg base 2 "is_within_bounds" s_is_within_bounds p_is_within_bounds (spV K 3 F_is_within_bounds)) : Df P w K mg base 3 "check_within" s_check_within p_check_within (spV K 3 F_check_within) :=
  df_v (k := 2) (N := N_check_within) hat sc_check_within (by decide) fun f cdv A outer s H E hr =>
    (show SVs _ (defBody s_check_within) g_check_within from
    (svs_one (sv_if (tv_not (tv_val (ev_cal D_is_within_bounds (hr.mono (by decide)) len_is_within_bounds (av_cons (ev_var 0) (av_cons (ev_var 1) (av_cons (ev_var 2) av_nil)))))) (svs_one sv_never) svs_nil)))
abbrev s_is_falling : Stmt := top 11
abbrev N_is_falling : List Str := ["parts", "step", "at"]
abbrev p_is_falling : List Str := ["parts", "step"]
theorem sc_is_falling : FnScope N_is_falling p_is_falling (defScope s_is_falling) := ⟨rfl, rfl, rfl, by decide +kernel, rfl, by decide +kernel, by decide +kernel⟩
def g_is_falling : S → Option Fl :=
  (retv (call1 (lcS [2] (itR1 (acons (bin2 (call1 (acons (getv 0) anil) lenD) (cst (.int 1)) subD) anil)) (tgN 2) yes (bin2 (bin2 (getv 0) (getv 2) ixD) (bin2 (bin2 (getv 0) (bin2 (getv 2) (cst (.int 1)) addD) ixD) (getv 1) addD) geD)) allL))
def F_is_falling : List D → Option Rt := runV g_is_falling 2 3
theorem len_is_falling : ∀ ds, F_is_falling ds ≠ none → ds.length = 2 := runV_len
theorem ok_is_falling {P : Program} {w : World} {K : PySem.W.Frag} {mg : Str → Option Value} {base : Heap} (nb : Nb mg) (hat : At K mg "is_falling" s_is_falling p_is_falling)  : Df P w K mg base 1 "is_falling" s_is_falling p_is_falling (spV K 2 F_is_falling) :=
  df_v (k := 0) (N := N_is_falling) hat sc_is_falling (by decide) fun f cdv A outer s H E hr =>
    (show SVs _ (defBody s_is_falling) g_is_falling from
    (svs_one (sv_ret (ev_callBL (cr_all rfl) l_all nb.n_all bt_all (eb_o (eo_lc (own := [(Str.ofString "at", 2)]) rfl sc_is_falling.nd (iv_range1 (av_cons (ev_bin op_sub d_sub (ev_callB call_len_seq d_len nb.n_len bt_len (av_cons (ev_var 0) av_nil)) ev_int) av_nil) nb.n_range) (blkOk_by (own := [(Str.ofString "at", 2)]) (show blkC N_is_falling (defScope s_is_falling) _ _ = true by decide +kernel)) (fun _ _ _ _ _ => pg_name (i := 2) sc_is_falling.nd rfl (Or.inl rfl)) (tgw_name (by decide)) (fun _ _ _ _ _ _ => pts_yes) (fun _ _ _ _ _ => (ev_cmp op_ge d_ge (ev_ix (ev_var 0) (ev_var 2)) (ev_bin op_addA d_add (ev_ix (ev_var 0) (ev_bin op_addA d_add (ev_var 2) ev_int)) (ev_var 1))))))))))
abbrev s_is_row : Stmt := top 12
abbrev N_is_row : List Str := ["value", "part"]
abbrev p_is_row : List Str := ["value"]
theorem sc_is_row : FnScope N_is_row p_is_row (defScope s_is_row) := ⟨rfl, rfl, rfl, by decide +kernel, rfl, by decide +kernel, by decide +kernel⟩
def g_is_row : S → Option Fl :=
  (seqs (ifs (ort (nott (tst (call1 (acons (getv 0) (acons (cst (.ty "tuple")) anil)) isiD))) (nott (tst (call1 (lcS [1] (itS (getv 0)) (tgN 1) yes (callF F_is_within_bounds (acons (getv 1) (acons (cst (.int 1)) (acons (cst (.int 600)) anil))))) allL)))) (retv (cst (.bl false))) nxt)
  (retv (andv (callF F_is_falling (acons (getv 0) (acons (cst (.int 0)) anil))) (bin2 (call1 (callo (acons (getv 0) anil) listD) sumL) (cst (.int 600)) leD))))
def F_is_row : List D → Option Rt := runV g_is_row 1 2
theorem len_is_row : ∀ ds, F_is_row ds ≠ none → ds.length = 1 := runV_len
theorem ok_is_row {P : Program} {w : World} {K : PySem.W.Frag} {mg : Str → Option Value} {base : Heap} (nb : Nb mg) (hat : At K mg "is_row" s_is_row p_is_row) (D_is_within_bounds : Df P w K mg base 2 "is_within_bounds" s_is_within_bounds p_is_within_bounds (spV K 3 F_is_within_bounds)) (D_is_falling : Df P w K mg base 1 "is_falling" s_is_falling p_is_falling (spV K 2 F_is_falling)) : Df P w K mg base 3 "is_row" s_is_row p_is_row (spV K 1 F_is_row) :=
  df_v (k := 2) (N := N_is_row) hat sc_is_row (by decide) fun f cdv A outer s H E hr =>
    (show SVs _ (defBody s_is_row) g_is_row from
    (svs_cons (sv_if (tv_w (tw_or (tv_not (tv_val (ev_callB call_isi d_isi nb.n_isinstance bt_isinstance (av_cons (ev_var 0) (av_cons (ev_type nb.n_tuple bt_tuple) av_nil))))) (tw_or1 (tv_not (tv_val (ev_callBL (cr_all rfl) l_all nb.n_all bt_all (eb_o (eo_lc (own := [(Str.ofString "part", 1)]) rfl sc_is_row.nd (iv_seq (ev_var 0)) (blkOk_by (own := [(Str.ofString "part", 1)]) (show blkC N_is_row (defScope s_is_row) _ _ = true by decide +kernel)) (fun _ _ _ _ _ => pg_name (i := 1) sc_is_row.nd rfl (Or.inl rfl)) (tgw_name (by decide)) (fun _ _ _ _ _ _ => pts_yes) (fun _ _ _ _ _ => (ev_cal D_is_within_bounds (hr.mono (by decide)) len_is_within_bounds (av_cons (ev_var 1) (av_cons ev_int (av_cons (ev_gi nb.g_MOST_SUM) av_nil))))))))))))) (svs_one (sv_ret ev_bl)) svs_nil)
      (svs_one (sv_ret (ev_and (ev_cal D_is_falling (hr.mono (by decide)) len_is_falling (av_cons (ev_var 0) (av_cons ev_int av_nil))) (ev_one (ev_cmp op_le d_le (ev_callBL (cr_sum rfl) l_sum nb.n_sum bt_sum (eb_o (eo_callTy call_list_of d_list nb.n_list bt_list (av_cons (ev_var 0) av_nil)))) (ev_gi nb.g_MOST_SUM))))))))
abbrev s_check_row : Stmt := top 13
abbrev N_check_row : List Str := ["value"]
abbrev p_check_row : List Str := ["value"]
theorem sc_check_row : FnScope N_check_row p_check_row (defScope s_check_row) := ⟨rfl, rfl, rfl, by decide +kernel, rfl, by decide +kernel, by decide +kernel⟩
def g_check_row : S → Option Fl :=
  (ifs (nott (tst (callF F_is_row (acons (getv 0) anil)))) never nxt)
def F_check_row : List D → Option Rt := runV g_check_row 1 1
theorem len_check_row : ∀ ds, F_check_row ds ≠ none → ds.length = 1 := runV_len
theorem ok_check_row {P : Program} {w : World} {K : PySem.W.Frag} {mg : Str → Option Value} {base : Heap} (nb : Nb mg) (hat : At K mg "check_row" s_check_row p_check_row) (D_is_row : Df P w K mg base 3 "is_row" s_is_row p_is_row (spV K 1 F_is_row)) : Df P w K mg base 4 "check_row" s_check_row p_check_row (spV K 1 F_check_row) :=
  df_v (k := 3) (N := N_check_row) hat sc_check_row (by decide) fun f cdv A outer s H E hr =>
    (show SVs _ (defBody s_check_row) g_check_row from
    (svs_one (sv_if (tv_not (tv_val (ev_cal D_is_row (hr.mono (by decide)) len_is_row (av_cons (ev_var 0) av_nil)))) (svs_one sv_never) svs_nil)))
abbrev s_falling_row : Stmt := top 14
abbrev N_falling_row : List Str := ["parts"]
abbrev p_falling_row : List Str := ["parts"]
theorem sc_falling_row : FnScope N_falling_row p_falling_row (defScope s_falling_row) := ⟨rfl, rfl, rfl, by decide +kernel, rfl, by decide +kernel, by decide +kernel⟩
def g_falling_row : S → Option Fl :=
  (retv (call1 (sortRo (ofV (getv 0))) tupL))
def F_falling_row : List D → Option Rt := runV g_falling_row 1 1
theorem len_falling_row : ∀ ds, F_falling_row ds ≠ none → ds.length = 1 := runV_len
theorem ok_falling_row {P : Program} {w : World} {K : PySem.W.Frag} {mg : Str → Option Value} {base : Heap} (nb : Nb mg) (hat : At K mg "falling_row" s_falling_row p_falling_row)  : Df P w K mg base 1 "falling_row" s_falling_row p_falling_row (spV K 1 F_falling_row) :=
  df_v (k := 0) (N := N_falling_row) hat sc_falling_row (by decide) fun f cdv A outer s H E hr =>
    (show SVs _ (defBody s_falling_row) g_falling_row from
    (svs_one (sv_ret (ev_callTyL call_tuple_of l_tup nb.n_tuple bt_tuple (eb_o (eo_sortR (eb_v (ev_var 0)) nb.n_sorted))))))
abbrev s_times_in : Stmt := top 15
abbrev N_times_in : List Str := ["row", "size", "part"]
abbrev p_times_in : List Str := ["row", "size"]
theorem sc_times_in : FnScope N_times_in p_times_in (defScope s_times_in) := ⟨rfl, rfl, rfl, by decide +kernel, rfl, by decide +kernel, by decide +kernel⟩
def g_times_in : S → Option Fl :=
  (retv (call1 (lcS [2] (itS (getv 0)) (tgN 2) (tst (bin2 (getv 2) (getv 1) eqD)) (getv 2)) lenL))
def F_times_in : List D → Option Rt := runV g_times_in 2 3
theorem len_times_in : ∀ ds, F_times_in ds ≠ none → ds.length = 2 := runV_len
theorem ok_times_in {P : Program} {w : World} {K : PySem.W.Frag} {mg : Str → Option Value} {base : Heap} (nb : Nb mg) (hat : At K mg "times_in" s_times_in p_times_in)  : Df P w K mg base 1 "times_in" s_times_in p_times_in (spV K 2 F_times_in) :=
  df_v (k := 0) (N := N_times_in) hat sc_times_in (by decide) fun f cdv A outer s H E hr =>
    (show SVs _ (defBody s_times_in) g_times_in from
    (svs_one (sv_ret (ev_callBL call_len_seq l_len nb.n_len bt_len (eb_o (eo_lc (own := [(Str.ofString "part", 2)]) rfl sc_times_in.nd (iv_seq (ev_var 0)) (blkOk_by (own := [(Str.ofString "part", 2)]) (show blkC N_times_in (defScope s_times_in) _ _ = true by decide +kernel)) (fun _ _ _ _ _ => pg_name (i := 2) sc_times_in.nd rfl (Or.inl rfl)) (tgw_name (by decide)) (fun _ _ _ _ _ _ => pts_if (tv_cmp (op_eqD (hu64 hr)) d_eq (ev_var 2) (ev_var 1))) (fun _ _ _ _ _ => (ev_var 2))))))))
abbrev s_sizes_of : Stmt := top 16
abbrev N_sizes_of : List Str := ["row"]
abbrev p_sizes_of : List Str := ["row"]
theorem sc_sizes_of : FnScope N_sizes_of p_sizes_of (defScope s_sizes_of) := ⟨rfl, rfl, rfl, by decide +kernel, rfl, by decide +kernel, by decide +kernel⟩
def g_sizes_of : S → Option Fl :=
  (retv (revF (ofO (sortSet (getv 0)))))
def F_sizes_of : List D → Option Rt := runV g_sizes_of 1 1
theorem len_sizes_of : ∀ ds, F_sizes_of ds ≠ none → ds.length = 1 := runV_len
theorem ok_sizes_of {P : Program} {w : World} {K : PySem.W.Frag} {mg : Str → Option Value} {base : Heap} (nb : Nb mg) (hat : At K mg "sizes_of" s_sizes_of p_sizes_of)  : Df P w K mg base 1 "sizes_of" s_sizes_of p_sizes_of (spV K 1 F_sizes_of) :=
  df_v (k := 0) (N := N_sizes_of) hat sc_sizes_of (by decide) fun f cdv A outer s H E hr =>
    (show SVs _ (defBody s_sizes_of) g_sizes_of from
    (svs_one (sv_ret (ev_rev (ev_o (eo_sortSet rfl (ev_var 0) nb.n_sorted nb.n_set))))))
abbrev s_turned_row : Stmt := top 17
abbrev N_turned_row : List Str := ["row", "found", "at", "below"]
abbrev p_turned_row : List Str := ["row"]
theorem sc_turned_row : FnScope N_turned_row p_turned_row (defScope s_turned_row) := ⟨rfl, rfl, rfl, by decide +kernel, rfl, by decide +kernel, by decide +kernel⟩
def g_turned_row : S → Option Fl :=
  (seqs (setv 1 (ofO (mkL anil)))
  (seqs (fors (itRd (acons (call1 (acons (getv 0) anil) lenD) (acons (cst (.int 0)) (acons (negF (cst (.int 1))) anil)))) (tgN 2) (seqs (setv 3 (ifv (tst (bin2 (getv 2) (call1 (acons (getv 0) anil) lenD) ltD)) (bin2 (getv 0) (getv 2) ixD) (cst (.int 0))))
  (setv 1 (bin2 (getv 1) (bin2 (ofO (mkL (acons (getv 2) anil))) (bin2 (bin2 (getv 0) (bin2 (getv 2) (cst (.int 1)) subD) ixD) (getv 3) subD) mulT) addD))))
  (retv (call1 (acons (getv 1) anil) tupD))))
def F_turned_row : List D → Option Rt := runV g_turned_row 1 4
theorem len_turned_row : ∀ ds, F_turned_row ds ≠ none → ds.length = 1 := runV_len
theorem ok_turned_row {P : Program} {w : World} {K : PySem.W.Frag} {mg : Str → Option Value} {base : Heap} (nb : Nb mg) (hat : At K mg "turned_row" s_turned_row p_turned_row)  : Df P w K mg base 1 "turned_row" s_turned_row p_turned_row (spV K 1 F_turned_row) :=
  df_v (k := 0) (N := N_turned_row) hat sc_turned_row (by decide) fun f cdv A outer s H E hr =>
    (show SVs _ (defBody s_turned_row) g_turned_row from
    (svs_cons (sv_set 1 (ev_o (eo_lst av_nil)) sc_turned_row.nd)
      (svs_cons (sv_for PassesOwn.never rfl (iv_rangeD (av_cons (ev_callB call_len_seq d_len nb.n_len bt_len (av_cons (ev_var 0) av_nil)) (av_cons ev_int (av_cons (ev_neg ev_int) av_nil))) nb.n_range) (gv_name 2 sc_turned_row.nd) (svs_cons (sv_set 3 (ev_if (tv_cmp op_lt d_lt (ev_var 2) (ev_callB call_len_seq d_len nb.n_len bt_len (av_cons (ev_var 0) av_nil))) (ev_ix (ev_var 0) (ev_var 2)) ev_int) sc_turned_row.nd)
      (svs_one (sv_set 1 (ev_bin op_addA d_add (ev_var 1) (ev_bin op_mulT d_mulT (ev_o (eo_lst (av_cons (ev_var 2) av_nil))) (ev_bin op_sub d_sub (ev_ix (ev_var 0) (ev_bin op_sub d_sub (ev_var 2) ev_int)) (ev_var 3)))) sc_turned_row.nd))))
      (svs_one (sv_ret (ev_callTy call_tuple_of d_tup nb.n_tuple bt_tuple (av_cons (ev_var 1) av_nil)))))))
abbrev s_turned : Stmt := top 18
abbrev N_turned : List Str := ["row"]
abbrev p_turned : List Str := ["row"]
theorem sc_turned : FnScope N_turned p_turned (defScope s_turned) := ⟨rfl, rfl, rfl, by decide +kernel, rfl, by decide +kernel, by decide +kernel⟩
def g_turned : S → Option Fl :=
  (seqs (drop1 (callF F_check_row (acons (getv 0) anil)))
  (retv (callF F_turned_row (acons (getv 0) anil))))
def F_turned : List D → Option Rt := runV g_turned 1 1
theorem len_turned : ∀ ds, F_turned ds ≠ none → ds.length = 1 := runV_len
theorem ok_turned {P : Program} {w : World} {K : PySem.W.Frag} {mg : Str → Option Value} {base : Heap} (nb : Nb mg) (hat : At K mg "turned" s_turned p_turned) (D_check_row : Df P w K mg base 4 "check_row" s_check_row p_check_row (spV K 1 F_check_row)) (D_turned_row : Df P w K mg base 1 "turned_row" s_turned_row p_turned_row (spV K 1 F_turned_row)) : Df P w K mg base 5 "turned" s_turned p_turned (spV K 1 F_turned) :=
  df_v (k := 4) (N := N_turned) hat sc_turned (by decide) fun f cdv A outer s H E hr =>
    (show SVs _ (defBody s_turned) g_turned from
    (svs_cons (sv_expr (ev_cal D_check_row (hr.mono (by decide)) len_check_row (av_cons (ev_var 0) av_nil)))
      (svs_one (sv_ret (ev_cal D_turned_row (hr.mono (by decide)) len_turned_row (av_cons (ev_var 0) av_nil))))))
abbrev s_taken_out : Stmt := top 19
abbrev N_taken_out : List Str := ["row", "other", "found", "size"]
abbrev p_taken_out : List Str := ["row", "other"]
theorem sc_taken_out : FnScope N_taken_out p_taken_out (defScope s_taken_out) := ⟨rfl, rfl, rfl, by decide +kernel, rfl, by decide +kernel, by decide +kernel⟩
def g_taken_out : S → Option Fl :=
  (seqs (setv 2 (ofO (mkL anil)))
  (seqs (fors (itS (callF F_sizes_of (acons (getv 0) anil))) (tgN 3) (setv 2 (bin2 (getv 2) (bin2 (ofO (mkL (acons (getv 3) anil))) (bin2 (callF F_times_in (acons (getv 0) (acons (getv 3) anil))) (callF F_times_in (acons (getv 1) (acons (getv 3) anil))) subD) mulT) addD)))
  (retv (call1 (acons (getv 2) anil) tupD))))
def F_taken_out : List D → Option Rt := runV g_taken_out 2 4
theorem len_taken_out : ∀ ds, F_taken_out ds ≠ none → ds.length = 2 := runV_len
theorem ok_taken_out {P : Program} {w : World} {K : PySem.W.Frag} {mg : Str → Option Value} {base : Heap} (nb : Nb mg) (hat : At K mg "taken_out" s_taken_out p_taken_out) (D_sizes_of : Df P w K mg base 1 "sizes_of" s_sizes_of p_sizes_of (spV K 1 F_sizes_of)) (D_times_in : Df P w K mg base 1 "times_in" s_times_in p_times_in (spV K 2 F_times_in)) : Df P w K mg base 2 "taken_out" s_taken_out p_taken_out (spV K 2 F_taken_out) :=
  df_v (k := 1) (N := N_taken_out) hat sc_taken_out (by decide) fun f cdv A outer s H E hr =>
    (show SVs _ (defBody s_taken_out) g_taken_out from
    (svs_cons (sv_set 2 (ev_o (eo_lst av_nil)) sc_taken_out.nd)
      (svs_cons (sv_for PassesOwn.never rfl (iv_seq (ev_cal D_sizes_of (hr.mono (by decide)) len_sizes_of (av_cons (ev_var 0) av_nil))) (gv_name 3 sc_taken_out.nd) (svs_one (sv_set 2 (ev_bin op_addA d_add (ev_var 2) (ev_bin op_mulT d_mulT (ev_o (eo_lst (av_cons (ev_var 3) av_nil))) (ev_bin op_sub d_sub (ev_cal D_times_in (hr.mono (by decide)) len_times_in (av_cons (ev_var 0) (av_cons (ev_var 3) av_nil))) (ev_cal D_times_in (hr.mono (by decide)) len_times_in (av_cons (ev_var 1) (av_cons (ev_var 3) av_nil)))))) sc_taken_out.nd)))
      (svs_one (sv_ret (ev_callTy call_tuple_of d_tup nb.n_tuple bt_tuple (av_cons (ev_var 2) av_nil)))))))
abbrev s_rows_within : Stmt := top 20
abbrev N_rows_within : List Str := ["number", "most", "found", "part", "rest"]
abbrev p_rows_within : List Str := ["number", "most"]
theorem sc_rows_within : FnScope N_rows_within p_rows_within (defScope s_rows_within) := ⟨rfl, rfl, rfl, by decide +kernel, rfl, by decide +kernel, by decide +kernel⟩
def g_rows_within (R : List D → Option Rt) : S → Option Fl :=
  (seqs (ifs (tst (bin2 (getv 0) (cst (.int 0)) eqD)) (reto (mkL (acons (mkT anil) anil))) nxt)
  (seqs (seto 2 (mkL anil))
  (seqs (fors (itR2 (acons (cst (.int 1)) (acons (bin2 (call1 (acons (getv 0) (acons (getv 1) anil)) min2D) (cst (.int 1)) addD) anil))) (tgN 3) (fors (itS (callF R (acons (bin2 (getv 0) (getv 3) subD) (acons (getv 3) anil)))) (tgN 4) (drop1 (appE 2 (mkT (acons (getv 3) (astar (getv 4) anil)))))))
  (retn 2))))
def F_rows_within : Nat → List D → Option Rt
  | 0 => fun _ => none
  | n + 1 => runV (g_rows_within (F_rows_within n)) 2 5
theorem len_rows_within : ∀ n ds, F_rows_within n ds ≠ none → ds.length = 2
  | 0, _, h => absurd rfl h
  | _ + 1, ds, h => runV_len ds h
theorem ok_rows_within {P : Program} {w : World} {K : PySem.W.Frag} {mg : Str → Option Value} {base : Heap} (nb : Nb mg) (hat : At K mg "rows_within" s_rows_within p_rows_within)  : ∀ n, Df P w K mg base (0 + n) "rows_within" s_rows_within p_rows_within (spV K 2 (F_rows_within n))
  | 0 => df_none hat rfl
  | n + 1 => by
    have D_rows_within := ok_rows_within (P := P) (w := w) (base := base) nb hat  n
    exact df_v (k := 0 + n) (N := N_rows_within) hat sc_rows_within (by decide) fun f cdv A outer s H E hr =>
    (show SVs _ (defBody s_rows_within) (g_rows_within (F_rows_within n)) from
    (svs_cons (sv_if (tv_cmp (op_eqD (hu64 hr)) d_eq (ev_var 0) ev_int) (svs_one (sv_retO (eo_lst (av_cons (ev_tup av_nil) av_nil)))) svs_nil)
      (svs_cons (sv_setO 2 (eo_lst av_nil) sc_rows_within.nd)
      (svs_cons (sv_for PassesOwn.never rfl (iv_range2 (av_cons ev_int (av_cons (ev_bin op_addA d_add (ev_callB (call_min2 rfl) d_min2 nb.n_min bt_min (av_cons (ev_var 0) (av_cons (ev_var 1) av_nil))) ev_int) av_nil)) nb.n_range) (gv_name 3 sc_rows_within.nd) (svs_one (sv_for PassesOwn.never rfl (iv_seq (ev_cal D_rows_within hr (len_rows_within n) (av_cons (ev_bin op_sub d_sub (ev_var 0) (ev_var 3)) (av_cons (ev_var 3) av_nil)))) (gv_name 4 sc_rows_within.nd) (svs_one (sv_expr (ev_append 2 (ev_tup (av_cons (ev_var 3) (av_star (ev_var 4) av_nil)))))))))
      (svs_one (sv_retN 2))))))
abbrev s_all_rows : Stmt := top 21
abbrev N_all_rows : List Str := ["number"]
abbrev p_all_rows : List Str := ["number"]
theorem sc_all_rows : FnScope N_all_rows p_all_rows (defScope s_all_rows) := ⟨rfl, rfl, rfl, by decide +kernel, rfl, by decide +kernel, by decide +kernel⟩
def g_all_rows : S → Option Fl :=
  (seqs (drop1 (callF F_check_within (acons (getv 0) (acons (cst (.int 0)) (acons (cst (.int 24)) anil)))))
  (retv (call1 (acons (callF (F_rows_within 40) (acons (getv 0) (acons (getv 0) anil))) anil) tupD)))
def F_all_rows : List D → Option Rt := runV g_all_rows 1 1
theorem len_all_rows : ∀ ds, F_all_rows ds ≠ none → ds.length = 1 := runV_len
theorem ok_all_rows {P : Program} {w : World} {K : PySem.W.Frag} {mg : Str → Option Value} {base : Heap} (nb : Nb mg) (hat : At K mg "all_rows" s_all_rows p_all_rows) (D_check_within : Df P w K mg base 3 "check_within" s_check_within p_check_within (spV K 3 F_check_within)) (D_rows_within : Df P w K mg base 40 "rows_within" s_rows_within p_rows_within (spV K 2 (F_rows_within 40))) : Df P w K mg base 41 "all_rows" s_all_rows p_all_rows (spV K 1 F_all_rows) :=
  df_v (k := 40) (N := N_all_rows) hat sc_all_rows (by decide) fun f cdv A outer s H E hr =>
    (show SVs _ (defBody s_all_rows) g_all_rows from
    (svs_cons (sv_expr (ev_cal D_check_within (hr.mono (by decide)) len_check_within (av_cons (ev_var 0) (av_cons ev_int (av_cons (ev_gi nb.g_MOST_LISTED) av_nil)))))
      (svs_one (sv_ret (ev_callTy call_tuple_of d_tup nb.n_tuple bt_tuple (av_cons (ev_cal D_rows_within (hr.mono (by decide)) (len_rows_within 40) (av_cons (ev_var 0) (av_cons (ev_var 0) av_nil))) av_nil))))))
abbrev s_next_row : Stmt := top 23
abbrev N_next_row : List Str := ["row", "part"]
abbrev p_next_row : List Str := ["row"]
theorem sc_next_row : FnScope N_next_row p_next_row (defScope s_next_row) := ⟨rfl, rfl, rfl, by decide +kernel, rfl, by decide +kernel, by decide +kernel⟩
def g_next_row : S → Option Fl :=
  (seqs (ifs (tst (bin2 (getv 0) (mkT anil) eqD)) (retv (mkT anil)) nxt)
  (retv (callF F_falling_row (acons (ofO (mkL (acons (call1 (acons (getv 0) anil) lenD) (astar (ofO (lcS [1] (itS (getv 0)) (tgN 1) (tst (bin2 (getv 1) (cst (.int 1)) gtD)) (bin2 (getv 1) (cst (.int 1)) subD))) anil)))) anil))))
def F_next_row : List D → Option Rt := runV g_next_row 1 2
theorem len_next_row : ∀ ds, F_next_row ds ≠ none → ds.length = 1 := runV_len
theorem ok_next_row {P : Program} {w : World} {K : PySem.W.Frag} {mg : Str → Option Value} {base : Heap} (nb : Nb mg) (hat : At K mg "next_row" s_next_row p_next_row) (D_falling_row : Df P w K mg base 1 "falling_row" s_falling_row p_falling_row (spV K 1 F_falling_row)) : Df P w K mg base 2 "next_row" s_next_row p_next_row (spV K 1 F_next_row) :=
  df_v (k := 1) (N := N_next_row) hat sc_next_row (by decide) fun f cdv A outer s H E hr =>
    (show SVs _ (defBody s_next_row) g_next_row from
    (svs_cons (sv_if (tv_cmp (op_eqD (hu64 hr)) d_eq (ev_var 0) (ev_tup av_nil)) (svs_one (sv_ret (ev_tup av_nil))) svs_nil)
      (svs_one (sv_ret (ev_cal D_falling_row (hr.mono (by decide)) len_falling_row (av_cons (ev_o (eo_lst (av_cons (ev_callB call_len_seq d_len nb.n_len bt_len (av_cons (ev_var 0) av_nil)) (av_star (ev_o (eo_lc (own := [(Str.ofString "part", 1)]) rfl sc_next_row.nd (iv_seq (ev_var 0)) (blkOk_by (own := [(Str.ofString "part", 1)]) (show blkC N_next_row (defScope s_next_row) _ _ = true by decide +kernel)) (fun _ _ _ _ _ => pg_name (i := 1) sc_next_row.nd rfl (Or.inl rfl)) (tgw_name (by decide)) (fun _ _ _ _ _ _ => pts_if (tv_cmp op_gt d_gt (ev_var 1) ev_int)) (fun _ _ _ _ _ => (ev_bin op_sub d_sub (ev_var 1) ev_int)))) av_nil)))) av_nil))))))
abbrev s_dealt : Stmt := top 24
abbrev N_dealt : List Str := ["row"]
abbrev p_dealt : List Str := ["row"]
theorem sc_dealt : FnScope N_dealt p_dealt (defScope s_dealt) := ⟨rfl, rfl, rfl, by decide +kernel, rfl, by decide +kernel, by decide +kernel⟩
def g_dealt : S → Option Fl :=
  (seqs (drop1 (callF F_check_row (acons (getv 0) anil)))
  (retv (callF F_next_row (acons (getv 0) anil))))
def F_dealt : List D → Option Rt := runV g_dealt 1 1
theorem len_dealt : ∀ ds, F_dealt ds ≠ none → ds.length = 1 := runV_len
theorem ok_dealt {P : Program} {w : World} {K : PySem.W.Frag} {mg : Str → Option Value} {base : Heap} (nb : Nb mg) (hat : At K mg "dealt" s_dealt p_dealt) (D_check_row : Df P w K mg base 4 "check_row" s_check_row p_check_row (spV K 1 F_check_row)) (D_next_row : Df P w K mg base 2 "next_row" s_next_row p_next_row (spV K 1 F_next_row)) : Df P w K mg base 5 "dealt" s_dealt p_dealt (spV K 1 F_dealt) :=
  df_v (k := 4) (N := N_dealt) hat sc_dealt (by decide) fun f cdv A outer s H E hr =>
    (show SVs _ (defBody s_dealt) g_dealt from
    (svs_cons (sv_expr (ev_cal D_check_row (hr.mono (by decide)) len_check_row (av_cons (ev_var 0) av_nil)))
      (svs_one (sv_ret (ev_cal D_next_row (hr.mono (by decide)) len_next_row (av_cons (ev_var 0) av_nil))))))
abbrev s_rows_ahead : Stmt := top 25
abbrev N_rows_ahead : List Str := ["row", "found", "size", "grown", "part"]
abbrev p_rows_ahead : List Str := ["row"]
theorem sc_rows_ahead : FnScope N_rows_ahead p_rows_ahead (defScope s_rows_ahead) := ⟨rfl, rfl, rfl, by decide +kernel, rfl, by decide +kernel, by decide +kernel⟩
def g_rows_ahead : S → Option Fl :=
  (seqs (ifs (tst (bin2 (getv 0) (mkT anil) eqD)) (retv (mkT (acons (mkT anil) anil))) nxt)
  (seqs (seto 1 (mkL anil))
  (seqs (fors (itS (callF F_sizes_of (acons (getv 0) anil))) (tgN 2) (ifs (tst (bin2 (getv 2) (bin2 (call1 (acons (getv 0) anil) lenD) (cst (.int 1)) subD) geD)) (seqs (setv 3 (ofO (lcS [4] (itS (callF F_taken_out (acons (getv 0) (acons (mkT (acons (getv 2) anil)) anil)))) (tgN 4) yes (bin2 (getv 4) (cst (.int 1)) addD))))
  (drop1 (appE 1 (callF F_falling_row (acons (ofO (mkL (astar (getv 3) (astar (bin2 (ofO (mkL (acons (cst (.int 1)) anil))) (bin2 (getv 2) (call1 (acons (getv 3) anil) lenD) subD) mulT) anil)))) anil))))) nxt))
  (retv (call1 (callo (bor 1) sortedG) tupL)))))
def F_rows_ahead : List D → Option Rt := runV g_rows_ahead 1 5
theorem len_rows_ahead : ∀ ds, F_rows_ahead ds ≠ none → ds.length = 1 := runV_len
theorem ok_rows_ahead {P : Program} {w : World} {K : PySem.W.Frag} {mg : Str → Option Value} {base : Heap} (nb : Nb mg) (hat : At K mg "rows_ahead" s_rows_ahead p_rows_ahead) (D_sizes_of : Df P w K mg base 1 "sizes_of" s_sizes_of p_sizes_of (spV K 1 F_sizes_of)) (D_falling_row : Df P w K mg base 1 "falling_row" s_falling_row p_falling_row (spV K 1 F_falling_row)) (D_taken_out : Df P w K mg base 2 "taken_out" s_taken_out p_taken_out (spV K 2 F_taken_out)) : Df P w K mg base 3 "rows_ahead" s_rows_ahead p_rows_ahead (spV K 1 F_rows_ahead) :=
  df_v (k := 2) (N := N_rows_ahead) hat sc_rows_ahead (by decide) fun f cdv A outer s H E hr =>
    (show SVs _ (defBody s_rows_ahead) g_rows_ahead from
    (svs_cons (sv_if (tv_cmp (op_eqD (hu64 hr)) d_eq (ev_var 0) (ev_tup av_nil)) (svs_one (sv_ret (ev_tup (av_cons (ev_tup av_nil) av_nil)))) svs_nil)
      (svs_cons (sv_setO 1 (eo_lst av_nil) sc_rows_ahead.nd)
      (svs_cons (sv_for PassesOwn.never rfl (iv_seq (ev_cal D_sizes_of (hr.mono (by decide)) len_sizes_of (av_cons (ev_var 0) av_nil))) (gv_name 2 sc_rows_ahead.nd) (svs_one (sv_if (tv_cmp op_ge d_ge (ev_var 2) (ev_bin op_sub d_sub (ev_callB call_len_seq d_len nb.n_len bt_len (av_cons (ev_var 0) av_nil)) ev_int)) (svs_cons (sv_setLcV 3 (own := [(Str.ofString "part", 4)]) rfl sc_rows_ahead.nd (iv_seq (ev_cal D_taken_out (hr.mono (by decide)) len_taken_out (av_cons (ev_var 0) (av_cons (ev_tup (av_cons (ev_var 2) av_nil)) av_nil)))) (blkOk_by (own := [(Str.ofString "part", 4)]) (show blkC N_rows_ahead (defScope s_rows_ahead) _ _ = true by decide +kernel)) (fun _ _ _ _ _ => pg_name (i := 4) sc_rows_ahead.nd rfl (Or.inl rfl)) (tgw_name (by decide)) (fun _ _ _ _ _ _ => pts_yes) (fun _ _ _ _ _ => (ev_bin op_addA d_add (ev_var 4) ev_int)) (sw_true rfl rfl rfl (by decide +kernel)))
      (svs_one (sv_expr (ev_append 1 (ev_cal D_falling_row (hr.mono (by decide)) len_falling_row (av_cons (ev_o (eo_lst (av_star (ev_var 3) (av_star (ev_bin op_mulT d_mulT (ev_o (eo_lst (av_cons ev_int av_nil))) (ev_bin op_sub d_sub (ev_var 2) (ev_callB call_len_seq d_len nb.n_len bt_len (av_cons (ev_var 3) av_nil)))) av_nil)))) av_nil)))))) svs_nil)))
      (svs_one (sv_ret (ev_callTyL call_tuple_of l_tup nb.n_tuple bt_tuple (eb_o (eo_callBL cr_srt l_srt nb.n_sorted bt_sorted (eb_var 1))))))))))
abbrev s_dealt_from : Stmt := top 26
abbrev N_dealt_from : List Str := ["row"]
abbrev p_dealt_from : List Str := ["row"]
theorem sc_dealt_from : FnScope N_dealt_from p_dealt_from (defScope s_dealt_from) := ⟨rfl, rfl, rfl, by decide +kernel, rfl, by decide +kernel, by decide +kernel⟩
def g_dealt_from : S → Option Fl :=
  (seqs (drop1 (callF F_check_row (acons (getv 0) anil)))
  (retv (callF F_rows_ahead (acons (getv 0) anil))))
def F_dealt_from : List D → Option Rt := runV g_dealt_from 1 1
theorem len_dealt_from : ∀ ds, F_dealt_from ds ≠ none → ds.length = 1 := runV_len
theorem ok_dealt_from {P : Program} {w : World} {K : PySem.W.Frag} {mg : Str → Option Value} {base : Heap} (nb : Nb mg) (hat : At K mg "dealt_from" s_dealt_from p_dealt_from) (D_check_row : Df P w K mg base 4 "check_row" s_check_row p_check_row (spV K 1 F_check_row)) (D_rows_ahead : Df P w K mg base 3 "rows_ahead" s_rows_ahead p_rows_ahead (spV K 1 F_rows_ahead)) : Df P w K mg base 5 "dealt_from" s_dealt_from p_dealt_from (spV K 1 F_dealt_from) :=
  df_v (k := 4) (N := N_dealt_from) hat sc_dealt_from (by decide) fun f cdv A outer s H E hr =>
    (show SVs _ (defBody s_dealt_from) g_dealt_from from
    (svs_cons (sv_expr (ev_cal D_check_row (hr.mono (by decide)) len_check_row (av_cons (ev_var 0) av_nil)))
      (svs_one (sv_ret (ev_cal D_rows_ahead (hr.mono (by decide)) len_rows_ahead (av_cons (ev_var 0) av_nil))))))
abbrev s_is_garden : Stmt := top 27
abbrev N_is_garden : List Str := ["row"]
abbrev p_is_garden : List Str := ["row"]
theorem sc_is_garden : FnScope N_is_garden p_is_garden (defScope s_is_garden) := ⟨rfl, rfl, rfl, by decide +kernel, rfl, by decide +kernel, by decide +kernel⟩
def g_is_garden : S → Option Fl :=
  (seqs (drop1 (callF F_check_row (acons (getv 0) anil)))
  (retv (bin2 (callF F_rows_ahead (acons (getv 0) anil)) (mkT anil) eqD)))
def F_is_garden : List D → Option Rt := runV g_is_garden 1 1
theorem len_is_garden : ∀ ds, F_is_garden ds ≠ none → ds.length = 1 := runV_len
theorem ok_is_garden {P : Program} {w : World} {K : PySem.W.Frag} {mg : Str → Option Value} {base : Heap} (nb : Nb mg) (hat : At K mg "is_garden" s_is_garden p_is_garden) (D_check_row : Df P w K mg base 4 "check_row" s_check_row p_check_row (spV K 1 F_check_row)) (D_rows_ahead : Df P w K mg base 3 "rows_ahead" s_rows_ahead p_rows_ahead (spV K 1 F_rows_ahead)) : Df P w K mg base 5 "is_garden" s_is_garden p_is_garden (spV K 1 F_is_garden) :=
  df_v (k := 4) (N := N_is_garden) hat sc_is_garden (by decide) fun f cdv A outer s H E hr =>
    (show SVs _ (defBody s_is_garden) g_is_garden from
    (svs_cons (sv_expr (ev_cal D_check_row (hr.mono (by decide)) len_check_row (av_cons (ev_var 0) av_nil)))
      (svs_one (sv_ret (ev_cmp (op_eqD (hu64 hr)) d_eq (ev_cal D_rows_ahead (hr.mono (by decide)) len_rows_ahead (av_cons (ev_var 0) av_nil)) (ev_tup av_nil))))))
abbrev s_rank_of : Stmt := top 31
abbrev N_rank_of : List Str := ["row"]
abbrev p_rank_of : List Str := ["row"]
theorem sc_rank_of : FnScope N_rank_of p_rank_of (defScope s_rank_of) := ⟨rfl, rfl, rfl, by decide +kernel, rfl, by decide +kernel, by decide +kernel⟩
def g_rank_of : S → Option Fl :=
  (retv (ifv (tst (bin2 (getv 0) (mkT anil) neD)) (bin2 (bin2 (getv 0) (cst (.int 0)) ixD) (call1 (acons (getv 0) anil) lenD) subD) (cst (.int 0))))
def F_rank_of : List D → Option Rt := runV g_rank_of 1 1
theorem len_rank_of : ∀ ds, F_rank_of ds ≠ none → ds.length = 1 := runV_len
theorem ok_rank_of {P : Program} {w : World} {K : PySem.W.Frag} {mg : Str → Option Value} {base : Heap} (nb : Nb mg) (hat : At K mg "rank_of" s_rank_of p_rank_of)  : Df P w K mg base 1 "rank_of" s_rank_of p_rank_of (spV K 1 F_rank_of) :=
  df_v (k := 0) (N := N_rank_of) hat sc_rank_of (by decide) fun f cdv A outer s H E hr =>
    (show SVs _ (defBody s_rank_of) g_rank_of from
    (svs_one (sv_ret (ev_if (tv_cmp (op_neD (hu64 hr)) d_ne (ev_var 0) (ev_tup av_nil)) (ev_bin op_sub d_sub (ev_ix (ev_var 0) ev_int) (ev_callB call_len_seq d_len nb.n_len bt_len (av_cons (ev_var 0) av_nil))) ev_int))))
abbrev s_rank : Stmt := top 32
abbrev N_rank : List Str := ["row"]
abbrev p_rank : List Str := ["row"]
theorem sc_rank : FnScope N_rank p_rank (defScope s_rank) := ⟨rfl, rfl, rfl, by decide +kernel, rfl, by decide +kernel, by decide +kernel⟩
def g_rank : S → Option Fl :=
  (seqs (drop1 (callF F_check_row (acons (getv 0) anil)))
  (retv (callF F_rank_of (acons (getv 0) anil))))
def F_rank : List D → Option Rt := runV g_rank 1 1
theorem len_rank : ∀ ds, F_rank ds ≠ none → ds.length = 1 := runV_len
theorem ok_rank {P : Program} {w : World} {K : PySem.W.Frag} {mg : Str → Option Value} {base : Heap} (nb : Nb mg) (hat : At K mg "rank" s_rank p_rank) (D_check_row : Df P w K mg base 4 "check_row" s_check_row p_check_row (spV K 1 F_check_row)) (D_rank_of : Df P w K mg base 1 "rank_of" s_rank_of p_rank_of (spV K 1 F_rank_of)) : Df P w K mg base 5 "rank" s_rank p_rank (spV K 1 F_rank) :=
  df_v (k := 4) (N := N_rank) hat sc_rank (by decide) fun f cdv A outer s H E hr =>
    (show SVs _ (defBody s_rank) g_rank from
    (svs_cons (sv_expr (ev_cal D_check_row (hr.mono (by decide)) len_check_row (av_cons (ev_var 0) av_nil)))
      (svs_one (sv_ret (ev_cal D_rank_of (hr.mono (by decide)) len_rank_of (av_cons (ev_var 0) av_nil))))))
abbrev s_shared : Stmt := top 33
abbrev N_shared : List Str := ["marks", "by", "found", "mark"]
abbrev p_shared : List Str := ["marks", "by"]
theorem sc_shared : FnScope N_shared p_shared (defScope s_shared) := ⟨rfl, rfl, rfl, by decide +kernel, rfl, by decide +kernel, by decide +kernel⟩
def g_shared : S → Option Fl :=
  (seqs (seto 2 (bin2o (ofO (mkL (acons (cst (.int 0)) anil))) (getv 1) repO))
  (seqs (fors (itS (getv 0)) (tgN 3) (setIx 2 (bin2 (ixO 2 (bin2 (call1 (acons (getv 3) anil) intD) (getv 1) modD)) (cst (.int 1)) addD) (bin2 (call1 (acons (getv 3) anil) intD) (getv 1) modD)))
  (retv (call1 (bor 2) tupL))))
def F_shared : List D → Option Rt := runV g_shared 2 4
theorem len_shared : ∀ ds, F_shared ds ≠ none → ds.length = 2 := runV_len
theorem ok_shared {P : Program} {w : World} {K : PySem.W.Frag} {mg : Str → Option Value} {base : Heap} (nb : Nb mg) (hat : At K mg "shared" s_shared p_shared)  : Df P w K mg base 1 "shared" s_shared p_shared (spV K 2 F_shared) :=
  df_v (k := 0) (N := N_shared) hat sc_shared (by decide) fun f cdv A outer s H E hr =>
    (show SVs _ (defBody s_shared) g_shared from
    (svs_cons (sv_setO 2 (eo_rep (ev_o (eo_lst (av_cons ev_int av_nil))) (ev_var 1)) sc_shared.nd)
      (svs_cons (sv_for PassesOwn.never rfl (iv_seq (ev_var 0)) (gv_name 3 sc_shared.nd) (svs_one (sv_setIx 2 (ev_bin op_addA d_add (ev_ixO 2 (ev_bin op_mod d_mod (ev_callTy call_int1 d_int nb.n_int bt_int (av_cons (ev_var 3) av_nil)) (ev_var 1))) ev_int) (ev_bin op_mod d_mod (ev_callTy call_int1 d_int nb.n_int bt_int (av_cons (ev_var 3) av_nil)) (ev_var 1)))))
      (svs_one (sv_ret (ev_callTyL call_tuple_of l_tup nb.n_tuple bt_tuple (eb_var 2)))))))
abbrev s_by_rank : Stmt := top 34
abbrev N_by_rank : List Str := ["number", "by", "row"]
abbrev p_by_rank : List Str := ["number", "by"]
theorem sc_by_rank : FnScope N_by_rank p_by_rank (defScope s_by_rank) := ⟨rfl, rfl, rfl, by decide +kernel, rfl, by decide +kernel, by decide +kernel⟩
def g_by_rank : S → Option Fl :=
  (seqs (drop1 (callF F_check_within (acons (getv 0) (acons (cst (.int 0)) (acons (cst (.int 24)) anil)))))
  (seqs (drop1 (callF F_check_within (acons (getv 1) (acons (cst (.int 2)) (acons (cst (.int 20)) anil)))))
  (retv (callF F_shared (acons (ofO (lcS [2] (itS (callF (F_rows_within 40) (acons (getv 0) (acons (getv 0) anil)))) (tgN 2) yes (callF F_rank_of (acons (getv 2) anil)))) (acons (getv 1) anil))))))
def F_by_rank : List D → Option Rt := runV g_by_rank 2 3
theorem len_by_rank : ∀ ds, F_by_rank ds ≠ none → ds.length = 2 := runV_len
theorem ok_by_rank {P : Program} {w : World} {K : PySem.W.Frag} {mg : Str → Option Value} {base : Heap} (nb : Nb mg) (hat : At K mg "by_rank" s_by_rank p_by_rank) (D_check_within : Df P w K mg base 3 "check_within" s_check_within p_check_within (spV K 3 F_check_within)) (D_shared : Df P w K mg base 1 "shared" s_shared p_shared (spV K 2 F_shared)) (D_rank_of : Df P w K mg base 1 "rank_of" s_rank_of p_rank_of (spV K 1 F_rank_of)) (D_rows_within : Df P w K mg base 40 "rows_within" s_rows_within p_rows_within (spV K 2 (F_rows_within 40))) : Df P w K mg base 41 "by_rank" s_by_rank p_by_rank (spV K 2 F_by_rank) :=
  df_v (k := 40) (N := N_by_rank) hat sc_by_rank (by decide) fun f cdv A outer s H E hr =>
    (show SVs _ (defBody s_by_rank) g_by_rank from
    (svs_cons (sv_expr (ev_cal D_check_within (hr.mono (by decide)) len_check_within (av_cons (ev_var 0) (av_cons ev_int (av_cons (ev_gi nb.g_MOST_LISTED) av_nil)))))
      (svs_cons (sv_expr (ev_cal D_check_within (hr.mono (by decide)) len_check_within (av_cons (ev_var 1) (av_cons (ev_gi nb.g_LEAST_BY) (av_cons (ev_gi nb.g_MOST_BY) av_nil)))))
      (svs_one (sv_ret (ev_cal D_shared (hr.mono (by decide)) len_shared (av_cons (ev_o (eo_lc (own := [(Str.ofString "row", 2)]) rfl sc_by_rank.nd (iv_seq (ev_cal D_rows_within (hr.mono (by decide)) (len_rows_within 40) (av_cons (ev_var 0) (av_cons (ev_var 0) av_nil)))) (blkOk_by (own := [(Str.ofString "row", 2)]) (show blkC N_by_rank (defScope s_by_rank) _ _ = true by decide +kernel)) (fun _ _ _ _ _ => pg_name (i := 2) sc_by_rank.nd rfl (Or.inl rfl)) (tgw_name (by decide)) (fun _ _ _ _ _ _ => pts_yes) (fun _ _ _ _ _ => (ev_cal D_rank_of (hr.mono (by decide)) len_rank_of (av_cons (ev_var 2) av_nil))))) (av_cons (ev_var 1) av_nil))))))))
abbrev s__law_bag : Stmt := top 36
abbrev N__law_bag : List Str := ["script", "lap", "own", "held", "at", "cell"]
abbrev p__law_bag : List Str := ["script", "lap"]
theorem sc__law_bag : FnScope N__law_bag p__law_bag (defScope s__law_bag) := ⟨rfl, rfl, rfl, by decide +kernel, rfl, by decide +kernel, by decide +kernel⟩
def g__law_bag : S → Option Fl :=
  (seqs (setv 2 (ifv (tst (bin2 (getv 1) (call1 (acons (getv 0) anil) lenD) ltD)) (call1 (acons (bin2 (getv 0) (getv 1) ixD) anil) intD) (cst (.int 0))))
  (seqs (setv 3 (bin2 (cst (.int 7046029254386353131)) (bin2 (cst (.int 15485863)) (getv 1) mulT) addD))
  (seqs (fors (itEn (slHi (getv 0) (cst (.int 60)))) (tgT (tgsC (tgN 4) (tgsC (tgN 5) tgs0))) (setv 3 (bin2 (call1 (acons (bin2 (bin2 (bin2 (getv 3) (cst (.int 6364136223846793005)) mulT) (bin2 (call1 (acons (getv 5) anil) intD) (bin2 (bin2 (cst (.int 6)) (getv 4) mulT) (cst (.int 5)) addD) mulT) addD) (cst (.int 1013904223)) addD) anil) intD) (cst (.int 18446744073709551557)) modD)))
  (reto (mkL (acons (ifv (ort (tst (bin2 (getv 2) (cst (.int 0)) ltD)) (tst (bin2 (getv 2) (bin2 (cst (.int 10)) (cst (.int 12)) powD) gtD))) (bin2 (call1 (acons (getv 2) anil) absD) (bin2 (cst (.int 10)) (cst (.int 40)) powD) modD) (cst (.int 0))) (acons (getv 3) anil)))))))
def F__law_bag : List D → Option Rt := runV g__law_bag 2 6
theorem len__law_bag : ∀ ds, F__law_bag ds ≠ none → ds.length = 2 := runV_len
theorem ok__law_bag {P : Program} {w : World} {K : PySem.W.Frag} {mg : Str → Option Value} {base : Heap} (nb : Nb mg) (hat : At K mg "_law_bag" s__law_bag p__law_bag)  : Df P w K mg base 1 "_law_bag" s__law_bag p__law_bag (spV K 2 F__law_bag) :=
  df_v (k := 0) (N := N__law_bag) hat sc__law_bag (by decide) fun f cdv A outer s H E hr =>
    (show SVs _ (defBody s__law_bag) g__law_bag from
    (svs_cons (sv_set 2 (ev_if (tv_cmp op_lt d_lt (ev_var 1) (ev_callB call_len_seq d_len nb.n_len bt_len (av_cons (ev_var 0) av_nil))) (ev_callTy call_int1 d_int nb.n_int bt_int (av_cons (ev_ix (ev_var 0) (ev_var 1)) av_nil)) ev_int) sc__law_bag.nd)
      (svs_cons (sv_set 3 (ev_bin op_addA d_add ev_int (ev_bin op_mulT d_mulT ev_int (ev_var 1))) sc__law_bag.nd)
      (svs_cons (sv_for PassesOwn.never rfl (iv_enum (ev_slHi (ev_var 0) ev_int) nb.n_enumerate) (gv_tup rfl (gvs_cons (gv_name 4 sc__law_bag.nd) (gvs_cons (gv_name 5 sc__law_bag.nd) gvs_nil)) (hl := (tgsC_len (tgsC_len tgs0_len)))) (svs_one (sv_set 3 (ev_bin op_mod d_mod (ev_callTy call_int1 d_int nb.n_int bt_int (av_cons (ev_bin op_addA d_add (ev_bin op_addA d_add (ev_bin op_mulT d_mulT (ev_var 3) ev_int) (ev_bin op_mulT d_mulT (ev_callTy call_int1 d_int nb.n_int bt_int (av_cons (ev_var 5) av_nil)) (ev_bin op_addA d_add (ev_bin op_mulT d_mulT ev_int (ev_var 4)) ev_int))) ev_int) av_nil)) ev_int) sc__law_bag.nd)))
      (svs_one (sv_retO (eo_lst (av_cons (ev_if (tv_w (tw_or (tv_cmp op_lt d_lt (ev_var 2) ev_int) (tw_or1 (tv_cmp op_gt d_gt (ev_var 2) (ev_bin op_pow d_pow ev_int ev_int))))) (ev_bin op_mod d_mod (ev_callB call_abs d_abs nb.n_abs bt_abs (av_cons (ev_var 2) av_nil)) (ev_bin op_pow d_pow ev_int ev_int)) ev_int) (av_cons (ev_var 3) av_nil)))))))))
abbrev s__law_draw : Stmt := top 37
abbrev N__law_draw : List Str := ["bag", "many", "found"]
abbrev p__law_draw : List Str := ["bag", "many"]
theorem sc__law_draw : FnScope N__law_draw p__law_draw (defScope s__law_draw) := ⟨rfl, rfl, rfl, by decide +kernel, rfl, by decide +kernel, by decide +kernel⟩
def g__law_draw : S → Option Fl :=
  (seqs (ifs (tst (bin2 (ixO 0 (cst (.int 0))) (cst (.int 0)) gtD)) (seqs (setv 2 (bin2 (call1 (acons (ixO 0 (cst (.int 0))) anil) intD) (getv 1) modD))
  (seqs (setIx 0 (bin2 (ixO 0 (cst (.int 0))) (getv 1) fdivD) (cst (.int 0)))
  (retv (getv 2)))) nxt)
  (seqs (setIx 0 (bin2 (call1 (acons (bin2 (bin2 (ixO 0 (cst (.int 1))) (cst (.int 2862933555777941757)) mulT) (cst (.int 3037000493)) addD) anil) intD) (cst (.int 18446744073709551557)) modD) (cst (.int 1)))
  (retv (bin2 (call1 (acons (bin2 (ixO 0 (cst (.int 1))) (cst (.int 1073741824)) fdivD) anil) intD) (getv 1) modD))))
def F__law_draw : List D → List D → Option (Rt × List D) := runI g__law_draw 2 3
theorem len__law_draw : ∀ m ds, F__law_draw m ds ≠ none → ds.length + 1 = 2 := runI_len
theorem ok__law_draw {P : Program} {w : World} {K : PySem.W.Frag} {mg : Str → Option Value} {base : Heap} (nb : Nb mg) (hat : At K mg "_law_draw" s__law_draw p__law_draw)  : Df P w K mg base 1 "_law_draw" s__law_draw p__law_draw (spI K 2 F__law_draw) :=
  df_i (k := 0) (N := N__law_draw) hat sc__law_draw (by decide) fun f cdv A outer s H E hr =>
    (show SVs _ (defBody s__law_draw) g__law_draw from
    (svs_cons (sv_if (tv_cmp op_gt d_gt (ev_ixO 0 ev_int) ev_int) (svs_cons (sv_set 2 (ev_bin op_mod d_mod (ev_callTy call_int1 d_int nb.n_int bt_int (av_cons (ev_ixO 0 ev_int) av_nil)) (ev_var 1)) sc__law_draw.nd)
      (svs_cons (sv_setIx 0 (ev_bin op_fdivW d_fdiv (ev_ixO 0 ev_int) (ev_var 1)) ev_int)
      (svs_one (sv_ret (ev_var 2))))) svs_nil)
      (svs_cons (sv_setIx 0 (ev_bin op_mod d_mod (ev_callTy call_int1 d_int nb.n_int bt_int (av_cons (ev_bin op_addA d_add (ev_bin op_mulT d_mulT (ev_ixO 0 ev_int) ev_int) ev_int) av_nil)) ev_int) ev_int)
      (svs_one (sv_ret (ev_bin op_mod d_mod (ev_callTy call_int1 d_int nb.n_int bt_int (av_cons (ev_bin op_fdivW d_fdiv (ev_ixO 0 ev_int) ev_int) av_nil)) (ev_var 1)))))))
abbrev s__law_alike : Stmt := top 38
abbrev N__law_alike : List Str := ["one", "two", "here", "there"]
abbrev p__law_alike : List Str := ["one", "two"]
theorem sc__law_alike : FnScope N__law_alike p__law_alike (defScope s__law_alike) := ⟨rfl, rfl, rfl, by decide +kernel, rfl, by decide +kernel, by decide +kernel⟩
def g__law_alike (R : List D → Option Rt) : S → Option Fl :=
  (seqs (ifs (ort (tst (call1 (acons (getv 0) (acons (cst (.ty "tuple")) anil)) isiD)) (tst (call1 (acons (getv 1) (acons (cst (.ty "tuple")) anil)) isiD))) (seqs (ifs (ort (nott (tst (call1 (acons (getv 0) (acons (cst (.ty "tuple")) anil)) isiD))) (ort (nott (tst (call1 (acons (getv 1) (acons (cst (.ty "tuple")) anil)) isiD))) (tst (bin2 (call1 (acons (getv 0) anil) lenD) (call1 (acons (getv 1) anil) lenD) neD)))) (retv (cst (.bl false))) nxt)
  (retv (bin2 (ofO (lcS [2, 3] (itZ (acons (getv 0) (acons (getv 1) anil))) (tgT (tgsC (tgN 2) (tgsC (tgN 3) tgs0))) (nott (tst (callF R (acons (getv 2) (acons (getv 3) anil))))) (cst (.int 1)))) (ofO (mkL anil)) eqD))) nxt)
  (seqs (ifs (ort (tst (bin2 (getv 0) (cst .non) isN)) (tst (bin2 (getv 1) (cst .non) isN))) (retv (andv (bin2 (getv 0) (cst .non) isN) (bin2 (getv 1) (cst .non) isN))) nxt)
  (seqs (ifs (ort (tst (call1 (acons (getv 0) (acons (cst (.ty "bool")) anil)) isiD)) (tst (call1 (acons (getv 1) (acons (cst (.ty "bool")) anil)) isiD))) (retv (andv (call1 (acons (getv 0) (acons (cst (.ty "bool")) anil)) isiD) (andv (call1 (acons (getv 1) (acons (cst (.ty "bool")) anil)) isiD) (bin2 (getv 0) (getv 1) eqD)))) nxt)
  (seqs (ifs (ort (tst (call1 (acons (getv 0) (acons (cst (.ty "str")) anil)) isiD)) (tst (call1 (acons (getv 1) (acons (cst (.ty "str")) anil)) isiD))) (retv (andv (call1 (acons (getv 0) (acons (cst (.ty "str")) anil)) isiD) (andv (call1 (acons (getv 1) (acons (cst (.ty "str")) anil)) isiD) (bin2 (getv 0) (getv 1) eqD)))) nxt)
  (retv (andv (call1 (acons (getv 0) (acons (cst (.ty "int")) anil)) isiD) (andv (call1 (acons (getv 1) (acons (cst (.ty "int")) anil)) isiD) (bin2 (getv 0) (getv 1) eqD))))))))
def F__law_alike : Nat → List D → Option Rt
  | 0 => fun _ => none
  | n + 1 => runV (g__law_alike (F__law_alike n)) 2 4
theorem len__law_alike : ∀ n ds, F__law_alike n ds ≠ none → ds.length = 2
  | 0, _, h => absurd rfl h
  | _ + 1, ds, h => runV_len ds h
theorem ok__law_alike {P : Program} {w : World} {K : PySem.W.Frag} {mg : Str → Option Value} {base : Heap} (nb : Nb mg) (hat : At K mg "_law_alike" s__law_alike p__law_alike)  : ∀ n, Df P w K mg base (0 + n) "_law_alike" s__law_alike p__law_alike (spV K 2 (F__law_alike n))
  | 0 => df_none hat rfl
  | n + 1 => by
    have D__law_alike := ok__law_alike (P := P) (w := w) (base := base) nb hat  n
    exact df_v (k := 0 + n) (N := N__law_alike) hat sc__law_alike (by decide) fun f cdv A outer s H E hr =>
    (show SVs _ (defBody s__law_alike) (g__law_alike (F__law_alike n)) from
    (svs_cons (sv_if (tv_w (tw_or (tv_val (ev_callB call_isi d_isi nb.n_isinstance bt_isinstance (av_cons (ev_var 0) (av_cons (ev_type nb.n_tuple bt_tuple) av_nil)))) (tw_or1 (tv_val (ev_callB call_isi d_isi nb.n_isinstance bt_isinstance (av_cons (ev_var 1) (av_cons (ev_type nb.n_tuple bt_tuple) av_nil))))))) (svs_cons (sv_if (tv_w (tw_or (tv_not (tv_val (ev_callB call_isi d_isi nb.n_isinstance bt_isinstance (av_cons (ev_var 0) (av_cons (ev_type nb.n_tuple bt_tuple) av_nil))))) (tw_or (tv_not (tv_val (ev_callB call_isi d_isi nb.n_isinstance bt_isinstance (av_cons (ev_var 1) (av_cons (ev_type nb.n_tuple bt_tuple) av_nil))))) (tw_or1 (tv_cmp (op_neD (hu64 hr)) d_ne (ev_callB call_len_seq d_len nb.n_len bt_len (av_cons (ev_var 0) av_nil)) (ev_callB call_len_seq d_len nb.n_len bt_len (av_cons (ev_var 1) av_nil))))))) (svs_one (sv_ret ev_bl)) svs_nil)
      (svs_one (sv_ret (ev_cmp (op_eqD (hu64 hr)) d_eq (ev_o (eo_lc (own := [(Str.ofString "here", 2), (Str.ofString "there", 3)]) rfl sc__law_alike.nd (iv_zip (av_cons (ev_var 0) (av_cons (ev_var 1) av_nil)) nb.n_zip) (blkOk_by (own := [(Str.ofString "here", 2), (Str.ofString "there", 3)]) (show blkC N__law_alike (defScope s__law_alike) _ _ = true by decide +kernel)) (fun _ _ _ _ _ => pg_tup rfl (pgs_cons (pg_name (i := 2) sc__law_alike.nd rfl (Or.inl rfl)) (pgs_cons (pg_name (i := 3) sc__law_alike.nd rfl (Or.inl rfl)) pgs_nil))) (tgw_pair (by decide) (by decide)) (fun _ _ _ _ _ _ => pts_if (tv_not (tv_val (ev_cal D__law_alike hr (len__law_alike n) (av_cons (ev_var 2) (av_cons (ev_var 3) av_nil)))))) (fun _ _ _ _ _ => ev_int))) (ev_o (eo_lst av_nil)))))) svs_nil)
      (svs_cons (sv_if (tv_w (tw_or (tv_cmp op_isN d_isN (ev_var 0) ev_non) (tw_or1 (tv_cmp op_isN d_isN (ev_var 1) ev_non)))) (svs_one (sv_ret (ev_and (ev_cmp op_isN d_isN (ev_var 0) ev_non) (ev_one (ev_cmp op_isN d_isN (ev_var 1) ev_non))))) svs_nil)
      (svs_cons (sv_if (tv_w (tw_or (tv_val (ev_callB call_isi d_isi nb.n_isinstance bt_isinstance (av_cons (ev_var 0) (av_cons (ev_type nb.n_bool bt_bool) av_nil)))) (tw_or1 (tv_val (ev_callB call_isi d_isi nb.n_isinstance bt_isinstance (av_cons (ev_var 1) (av_cons (ev_type nb.n_bool bt_bool) av_nil))))))) (svs_one (sv_ret (ev_and (ev_callB call_isi d_isi nb.n_isinstance bt_isinstance (av_cons (ev_var 0) (av_cons (ev_type nb.n_bool bt_bool) av_nil))) (ev_and (ev_callB call_isi d_isi nb.n_isinstance bt_isinstance (av_cons (ev_var 1) (av_cons (ev_type nb.n_bool bt_bool) av_nil))) (ev_one (ev_cmp (op_eqD (hu64 hr)) d_eq (ev_var 0) (ev_var 1))))))) svs_nil)
      (svs_cons (sv_if (tv_w (tw_or (tv_val (ev_callB call_isi d_isi nb.n_isinstance bt_isinstance (av_cons (ev_var 0) (av_cons (ev_type nb.n_str bt_str) av_nil)))) (tw_or1 (tv_val (ev_callB call_isi d_isi nb.n_isinstance bt_isinstance (av_cons (ev_var 1) (av_cons (ev_type nb.n_str bt_str) av_nil))))))) (svs_one (sv_ret (ev_and (ev_callB call_isi d_isi nb.n_isinstance bt_isinstance (av_cons (ev_var 0) (av_cons (ev_type nb.n_str bt_str) av_nil))) (ev_and (ev_callB call_isi d_isi nb.n_isinstance bt_isinstance (av_cons (ev_var 1) (av_cons (ev_type nb.n_str bt_str) av_nil))) (ev_one (ev_cmp (op_eqD (hu64 hr)) d_eq (ev_var 0) (ev_var 1))))))) svs_nil)
      (svs_one (sv_ret (ev_and (ev_callB call_isi d_isi nb.n_isinstance bt_isinstance (av_cons (ev_var 0) (av_cons (ev_type nb.n_int bt_int) av_nil))) (ev_and (ev_callB call_isi d_isi nb.n_isinstance bt_isinstance (av_cons (ev_var 1) (av_cons (ev_type nb.n_int bt_int) av_nil))) (ev_one (ev_cmp (op_eqD (hu64 hr)) d_eq (ev_var 0) (ev_var 1))))))))))))
abbrev s__law_row : Stmt := top 39
abbrev N__law_row : List Str := ["bag", "number", "left", "parts", "style", "turn", "high", "part", "often", "again"]
abbrev p__law_row : List Str := ["bag", "number"]
theorem sc__law_row : FnScope N__law_row p__law_row (defScope s__law_row) := ⟨rfl, rfl, rfl, by decide +kernel, rfl, by decide +kernel, by decide +kernel⟩
def g__law_row : S → Option Fl :=
  (seqs (parA [2, 3, 4] (mcv (getv 1) (mco (mkL anil) (mcv (callI 0 F__law_draw (acons (cst (.int 5)) anil)) mnil))))
  (seqs (fors (itR1 (acons (getv 1) anil)) (tgN 5) (seqs (ifs (tst (bin2 (getv 2) (cst (.int 0)) eqD)) brk nxt)
  (seqs (setv 6 (call1 (acons (getv 2) (acons (bin2 (mkT (acons (getv 2) (acons (cst (.int 3)) (acons (bin2 (cst (.int 1)) (bin2 (getv 2) (cst (.int 2)) fdivD) addD) (acons (cst (.int 9)) (acons (bin2 (cst (.int 2)) (bin2 (getv 1) (cst (.int 4)) fdivD) addD) anil)))))) (getv 4) ixD) anil)) min2D))
  (seqs (setv 7 (bin2 (cst (.int 1)) (callI 0 F__law_draw (acons (call1 (acons (cst (.int 1)) (acons (getv 6) anil)) max2D) anil)) addD))
  (seqs (setv 8 (bin2 (cst (.int 1)) (callI 0 F__law_draw (acons (ifv (tst (bin2 (getv 4) (cst (.int 1)) neD)) (cst (.int 3)) (cst (.int 5))) anil)) addD))
  (fors (itR1 (acons (getv 8) anil)) (tgN 9) (ifs (tst (bin2 (getv 7) (getv 2) leD)) (seqs (drop1 (appE 3 (getv 7)))
  (setv 2 (bin2 (getv 2) (getv 7) subD))) nxt)))))))
  (retv (call1 (acons (revF (ofO (callo (bor 3) sortedG))) anil) tupD))))
def F__law_row : List D → List D → Option (Rt × List D) := runI g__law_row 2 10
theorem len__law_row : ∀ m ds, F__law_row m ds ≠ none → ds.length + 1 = 2 := runI_len
theorem ok__law_row {P : Program} {w : World} {K : PySem.W.Frag} {mg : Str → Option Value} {base : Heap} (nb : Nb mg) (hat : At K mg "_law_row" s__law_row p__law_row) (D__law_draw : Df P w K mg base 1 "_law_draw" s__law_draw p__law_draw (spI K 2 F__law_draw)) : Df P w K mg base 2 "_law_row" s__law_row p__law_row (spI K 2 F__law_row) :=
  df_i (k := 1) (N := N__law_row) hat sc__law_row (by decide) fun f cdv A outer s H E hr =>
    (show SVs _ (defBody s__law_row) g__law_row from
    (svs_cons (sv_parA3 2 3 4 (mv_v (ev_var 1) (mv_o (eo_lst av_nil) (mv_v (ev_calI 0 D__law_draw (hr.mono (by decide)) len__law_draw (av_cons ev_int av_nil)) mv_nil))) rfl sc__law_row.nd)
      (svs_cons (sv_for PassesOwn.never rfl (iv_range1 (av_cons (ev_var 1) av_nil) nb.n_range) (gv_name 5 sc__law_row.nd) (svs_cons (sv_if (tv_cmp (op_eqD (hu64 hr)) d_eq (ev_var 2) ev_int) (svs_one sv_break) svs_nil)
      (svs_cons (sv_set 6 (ev_callB (call_min2 rfl) d_min2 nb.n_min bt_min (av_cons (ev_var 2) (av_cons (ev_ix (ev_tup (av_cons (ev_var 2) (av_cons ev_int (av_cons (ev_bin op_addA d_add ev_int (ev_bin op_fdivW d_fdiv (ev_var 2) ev_int)) (av_cons ev_int (av_cons (ev_bin op_addA d_add ev_int (ev_bin op_fdivW d_fdiv (ev_var 1) ev_int)) av_nil)))))) (ev_var 4)) av_nil))) sc__law_row.nd)
      (svs_cons (sv_set 7 (ev_bin op_addA d_add ev_int (ev_calI 0 D__law_draw (hr.mono (by decide)) len__law_draw (av_cons (ev_callB (call_max2 rfl) d_max2 nb.n_max bt_max (av_cons ev_int (av_cons (ev_var 6) av_nil))) av_nil))) sc__law_row.nd)
      (svs_cons (sv_set 8 (ev_bin op_addA d_add ev_int (ev_calI 0 D__law_draw (hr.mono (by decide)) len__law_draw (av_cons (ev_if (tv_cmp (op_neD (hu64 hr)) d_ne (ev_var 4) ev_int) ev_int ev_int) av_nil))) sc__law_row.nd)
      (svs_one (sv_for PassesOwn.never rfl (iv_range1 (av_cons (ev_var 8) av_nil) nb.n_range) (gv_name 9 sc__law_row.nd) (svs_one (sv_if (tv_cmp op_le d_le (ev_var 7) (ev_var 2)) (svs_cons (sv_expr (ev_append 3 (ev_var 7)))
      (svs_one (sv_set 2 (ev_bin op_sub d_sub (ev_var 2) (ev_var 7)) sc__law_row.nd))) svs_nil)))))))))
      (svs_one (sv_ret (ev_callTy call_tuple_of d_tup nb.n_tuple bt_tuple (av_cons (ev_rev (ev_o (eo_callBL cr_srt l_srt nb.n_sorted bt_sorted (eb_var 3)))) av_nil)))))))
abbrev s__law_in_order : Stmt := top 40
abbrev N__law_in_order : List Str := ["rows"]
abbrev p__law_in_order : List Str := ["rows"]
theorem sc__law_in_order : FnScope N__law_in_order p__law_in_order (defScope s__law_in_order) := ⟨rfl, rfl, rfl, by decide +kernel, rfl, by decide +kernel, by decide +kernel⟩
def g__law_in_order : S → Option Fl :=
  (retv (call1 (callo (acons (getv 0) anil) sortedV) tupL))
def F__law_in_order : List D → Option Rt := runV g__law_in_order 1 1
theorem len__law_in_order : ∀ ds, F__law_in_order ds ≠ none → ds.length = 1 := runV_len
theorem ok__law_in_order {P : Program} {w : World} {K : PySem.W.Frag} {mg : Str → Option Value} {base : Heap} (nb : Nb mg) (hat : At K mg "_law_in_order" s__law_in_order p__law_in_order)  : Df P w K mg base 1 "_law_in_order" s__law_in_order p__law_in_order (spV K 1 F__law_in_order) :=
  df_v (k := 0) (N := N__law_in_order) hat sc__law_in_order (by decide) fun f cdv A outer s H E hr =>
    (show SVs _ (defBody s__law_in_order) g__law_in_order from
    (svs_one (sv_ret (ev_callTyL call_tuple_of l_tup nb.n_tuple bt_tuple (eb_o (eo_callB cr_srt d_srt nb.n_sorted bt_sorted (av_cons (ev_var 0) av_nil)))))))
abbrev s__law_row_right : Stmt := top 41
abbrev N__law_row_right : List Str := ["row", "own", "back", "wide", "part", "other"]
abbrev p__law_row_right : List Str := ["row"]
theorem sc__law_row_right : FnScope N__law_row_right p__law_row_right (defScope s__law_row_right) := ⟨rfl, rfl, rfl, by decide +kernel, rfl, by decide +kernel, by decide +kernel⟩
def g__law_row_right : S → Option Fl :=
  (seqs (parA [1, 2] (mcv (callF F_rank (acons (getv 0) anil)) (mcv (callF F_dealt_from (acons (getv 0) anil)) mnil)))
  (seqs (ifs (ort (tst (bin2 (getv 1) (ifv (tst (bin2 (getv 0) (mkT anil) neD)) (bin2 (bin2 (getv 0) (cst (.int 0)) ixD) (call1 (acons (getv 0) anil) lenD) subD) (cst (.int 0))) neD)) (tst (bin2 (callKF F_rank 0 1 [0] anil (acons (callF F_turned (acons (getv 0) anil)) anil)) (bin2 (cst (.int 0)) (getv 1) subD) neD))) (retv (cst (.bl false))) nxt)
  (seqs (setv 3 (ofO (lcS [4] (itS (ofO (sortSet (getv 0)))) (tgN 4) (tst (bin2 (getv 4) (bin2 (call1 (acons (getv 0) anil) lenD) (cst (.int 1)) subD) geD)) (getv 4))))
  (seqs (ifs (ort (nott (tst (callF (F__law_alike 40) (acons (callKF F_is_garden 0 1 [0] anil (acons (getv 0) anil)) (acons (bin2 (getv 1) (bin2 (cst (.int 0)) (cst (.int 2)) subD) leD) anil))))) (ort (tst (bin2 (call1 (acons (getv 2) anil) lenD) (ifv (tst (bin2 (getv 0) (mkT anil) neD)) (call1 (acons (getv 3) anil) lenD) (cst (.int 1))) neD)) (tst (bin2 (getv 2) (callF F__law_in_order (acons (getv 2) anil)) neD)))) (retv (cst (.bl false))) nxt)
  (seqs (fors (itS (getv 2)) (tgN 5) (ifs (ort (nott (tst (callF (F__law_alike 40) (acons (callF F_dealt (acons (getv 5) anil)) (acons (getv 0) anil))))) (tst (bin2 (call1 (acons (getv 5) anil) sumD) (call1 (acons (getv 0) anil) sumD) neD))) (retv (cst (.bl false))) nxt))
  (retv (andv (bin2 (callF F_rank (acons (callF F_dealt (acons (getv 0) anil)) anil)) (negF (cst (.int 1))) geD) (bin2 (getv 0) (callKF F_dealt_from 0 1 [0] anil (acons (callF F_dealt (acons (getv 0) anil)) anil)) inD))))))))
def F__law_row_right : List D → Option Rt := runV g__law_row_right 1 6
theorem len__law_row_right : ∀ ds, F__law_row_right ds ≠ none → ds.length = 1 := runV_len
theorem ok__law_row_right {P : Program} {w : World} {K : PySem.W.Frag} {mg : Str → Option Value} {base : Heap} (nb : Nb mg) (hat : At K mg "_law_row_right" s__law_row_right p__law_row_right) (D_rank : Df P w K mg base 5 "rank" s_rank p_rank (spV K 1 F_rank)) (D_dealt_from : Df P w K mg base 5 "dealt_from" s_dealt_from p_dealt_from (spV K 1 F_dealt_from)) (D_turned : Df P w K mg base 5 "turned" s_turned p_turned (spV K 1 F_turned)) (D__law_alike : Df P w K mg base 40 "_law_alike" s__law_alike p__law_alike (spV K 2 (F__law_alike 40))) (D__law_in_order : Df P w K mg base 1 "_law_in_order" s__law_in_order p__law_in_order (spV K 1 F__law_in_order)) (D_is_garden : Df P w K mg base 5 "is_garden" s_is_garden p_is_garden (spV K 1 F_is_garden)) (D_dealt : Df P w K mg base 5 "dealt" s_dealt p_dealt (spV K 1 F_dealt)) : Df P w K mg base 41 "_law_row_right" s__law_row_right p__law_row_right (spV K 1 F__law_row_right) :=
  df_v (k := 40) (N := N__law_row_right) hat sc__law_row_right (by decide) fun f cdv A outer s H E hr =>
    (show SVs _ (defBody s__law_row_right) g__law_row_right from
    (svs_cons (sv_parA2 1 2 (mv_v (ev_cal D_rank (hr.mono (by decide)) len_rank (av_cons (ev_var 0) av_nil)) (mv_v (ev_cal D_dealt_from (hr.mono (by decide)) len_dealt_from (av_cons (ev_var 0) av_nil)) mv_nil)) rfl sc__law_row_right.nd)
      (svs_cons (sv_if (tv_w (tw_or (tv_cmp (op_neD (hu64 hr)) d_ne (ev_var 1) (ev_if (tv_cmp (op_neD (hu64 hr)) d_ne (ev_var 0) (ev_tup av_nil)) (ev_bin op_sub d_sub (ev_ix (ev_var 0) ev_int) (ev_callB call_len_seq d_len nb.n_len bt_len (av_cons (ev_var 0) av_nil))) ev_int)) (tw_or1 (tv_cmp (op_neD (hu64 hr)) d_ne (ev_calK0 D_rank (hr.mono (by decide)) len_rank (m0 := 0) (m := 1) (π := [0]) (ks := [Str.ofString "row"]) (fun _ _ _ _ _ _ us ws h1 h2 => match us, h1, ws, h2 with | [], _, [_], _ => rfl) (kv_cons (ev_cal D_turned (hr.mono (by decide)) len_turned (av_cons (ev_var 0) av_nil)) kv_nil)) (ev_bin op_sub d_sub ev_int (ev_var 1)))))) (svs_one (sv_ret ev_bl)) svs_nil)
      (svs_cons (sv_setLcV 3 (own := [(Str.ofString "part", 4)]) rfl sc__law_row_right.nd (iv_seq (ev_o (eo_sortSet rfl (ev_var 0) nb.n_sorted nb.n_set))) (blkOk_by (own := [(Str.ofString "part", 4)]) (show blkC N__law_row_right (defScope s__law_row_right) _ _ = true by decide +kernel)) (fun _ _ _ _ _ => pg_name (i := 4) sc__law_row_right.nd rfl (Or.inl rfl)) (tgw_name (by decide)) (fun _ _ _ _ _ _ => pts_if (tv_cmp op_ge d_ge (ev_var 4) (ev_bin op_sub d_sub (ev_callB call_len_seq d_len nb.n_len bt_len (av_cons (ev_var 0) av_nil)) ev_int))) (fun _ _ _ _ _ => (ev_var 4)) (sw_true rfl rfl rfl (by decide +kernel)))
      (svs_cons (sv_if (tv_w (tw_or (tv_not (tv_val (ev_cal D__law_alike (hr.mono (by decide)) (len__law_alike 40) (av_cons (ev_calK0 D_is_garden (hr.mono (by decide)) len_is_garden (m0 := 0) (m := 1) (π := [0]) (ks := [Str.ofString "row"]) (fun _ _ _ _ _ _ us ws h1 h2 => match us, h1, ws, h2 with | [], _, [_], _ => rfl) (kv_cons (ev_var 0) kv_nil)) (av_cons (ev_cmp op_le d_le (ev_var 1) (ev_bin op_sub d_sub ev_int ev_int)) av_nil))))) (tw_or (tv_cmp (op_neD (hu64 hr)) d_ne (ev_callB call_len_seq d_len nb.n_len bt_len (av_cons (ev_var 2) av_nil)) (ev_if (tv_cmp (op_neD (hu64 hr)) d_ne (ev_var 0) (ev_tup av_nil)) (ev_callB call_len_seq d_len nb.n_len bt_len (av_cons (ev_var 3) av_nil)) ev_int)) (tw_or1 (tv_cmp (op_neD (hu64 hr)) d_ne (ev_var 2) (ev_cal D__law_in_order (hr.mono (by decide)) len__law_in_order (av_cons (ev_var 2) av_nil))))))) (svs_one (sv_ret ev_bl)) svs_nil)
      (svs_cons (sv_for PassesOwn.never rfl (iv_seq (ev_var 2)) (gv_name 5 sc__law_row_right.nd) (svs_one (sv_if (tv_w (tw_or (tv_not (tv_val (ev_cal D__law_alike (hr.mono (by decide)) (len__law_alike 40) (av_cons (ev_cal D_dealt (hr.mono (by decide)) len_dealt (av_cons (ev_var 5) av_nil)) (av_cons (ev_var 0) av_nil))))) (tw_or1 (tv_cmp (op_neD (hu64 hr)) d_ne (ev_callB (cr_sumA rfl) d_sum nb.n_sum bt_sum (av_cons (ev_var 5) av_nil)) (ev_callB (cr_sumA rfl) d_sum nb.n_sum bt_sum (av_cons (ev_var 0) av_nil)))))) (svs_one (sv_ret ev_bl)) svs_nil)))
      (svs_one (sv_ret (ev_and (ev_cmp op_ge d_ge (ev_cal D_rank (hr.mono (by decide)) len_rank (av_cons (ev_cal D_dealt (hr.mono (by decide)) len_dealt (av_cons (ev_var 0) av_nil)) av_nil)) (ev_neg ev_int)) (ev_one (ev_cmp (op_inA (hu65 hr)) d_in (ev_var 0) (ev_calK0 D_dealt_from (hr.mono (by decide)) len_dealt_from (m0 := 0) (m := 1) (π := [0]) (ks := [Str.ofString "row"]) (fun _ _ _ _ _ _ us ws h1 h2 => match us, h1, ws, h2 with | [], _, [_], _ => rfl) (kv_cons (ev_cal D_dealt (hr.mono (by decide)) len_dealt (av_cons (ev_var 0) av_nil)) kv_nil)))))))))))))
abbrev s__law_number_right : Stmt := top 42
abbrev N__law_number_right : List Str := ["bag", "number", "rows", "gardens", "row", "by", "told", "due", "rest"]
abbrev p__law_number_right : List Str := ["bag", "number"]
theorem sc__law_number_right : FnScope N__law_number_right p__law_number_right (defScope s__law_number_right) := ⟨rfl, rfl, rfl, by decide +kernel, rfl, by decide +kernel, by decide +kernel⟩
def g__law_number_right : S → Option Fl :=
  (seqs (setv 2 (callF F_all_rows (acons (getv 1) anil)))
  (seqs (setv 3 (ofO (lcS [4] (itS (getv 2)) (tgN 4) (tst (callF F_is_garden (acons (getv 4) anil))) (getv 4))))
  (seqs (ifs (tst (bin2 (call1 (acons (getv 3) anil) lenD) (call1 (lcS [4] (itS (getv 2)) (tgN 4) (tst (bin2 (callF F_rank (acons (getv 4) anil)) (cst (.int 2)) geD)) (getv 4)) lenL) neD)) (retv (cst (.bl false))) nxt)
  (seqs (setv 5 (bin2 (cst (.int 2)) (callI 0 F__law_draw (acons (cst (.int 19)) anil)) addD))
  (seqs (parA [6, 7] (mcv (callF F_by_rank (acons (getv 1) (acons (getv 5) anil))) (mco (bin2o (ofO (mkL (acons (cst (.int 0)) anil))) (getv 5) repO) mnil)))
  (seqs (fors (itS (getv 2)) (tgN 4) (seqs (setv 8 (bin2 (call1 (acons (callF F_rank (acons (getv 4) anil)) anil) intD) (getv 5) modD))
  (setIx 7 (bin2 (ixO 7 (getv 8)) (cst (.int 1)) addD) (getv 8))))
  (retv (andv (callF (F__law_alike 40) (acons (getv 6) (acons (call1 (bor 7) tupL) anil))) (bin2 (slLo (callKF F_by_rank 0 2 [1, 0] anil (acons (getv 5) (acons (getv 1) anil))) (cst (.int 1))) (revF (slLo (getv 6) (cst (.int 1)))) eqD)))))))))
def F__law_number_right : List D → List D → Option (Rt × List D) := runI g__law_number_right 2 9
theorem len__law_number_right : ∀ m ds, F__law_number_right m ds ≠ none → ds.length + 1 = 2 := runI_len
theorem ok__law_number_right {P : Program} {w : World} {K : PySem.W.Frag} {mg : Str → Option Value} {base : Heap} (nb : Nb mg) (hat : At K mg "_law_number_right" s__law_number_right p__law_number_right) (D_all_rows : Df P w K mg base 41 "all_rows" s_all_rows p_all_rows (spV K 1 F_all_rows)) (D_is_garden : Df P w K mg base 5 "is_garden" s_is_garden p_is_garden (spV K 1 F_is_garden)) (D_rank : Df P w K mg base 5 "rank" s_rank p_rank (spV K 1 F_rank)) (D__law_draw : Df P w K mg base 1 "_law_draw" s__law_draw p__law_draw (spI K 2 F__law_draw)) (D_by_rank : Df P w K mg base 41 "by_rank" s_by_rank p_by_rank (spV K 2 F_by_rank)) (D__law_alike : Df P w K mg base 40 "_law_alike" s__law_alike p__law_alike (spV K 2 (F__law_alike 40))) : Df P w K mg base 42 "_law_number_right" s__law_number_right p__law_number_right (spI K 2 F__law_number_right) :=
  df_i (k := 41) (N := N__law_number_right) hat sc__law_number_right (by decide) fun f cdv A outer s H E hr =>
    (show SVs _ (defBody s__law_number_right) g__law_number_right from
    (svs_cons (sv_set 2 (ev_cal D_all_rows (hr.mono (by decide)) len_all_rows (av_cons (ev_var 1) av_nil)) sc__law_number_right.nd)
      (svs_cons (sv_setLcV 3 (own := [(Str.ofString "row", 4)]) rfl sc__law_number_right.nd (iv_seq (ev_var 2)) (blkOk_by (own := [(Str.ofString "row", 4)]) (show blkC N__law_number_right (defScope s__law_number_right) _ _ = true by decide +kernel)) (fun _ _ _ _ _ => pg_name (i := 4) sc__law_number_right.nd rfl (Or.inl rfl)) (tgw_name (by decide)) (fun _ _ _ _ _ _ => pts_if (tv_val (ev_cal D_is_garden (hr.mono (by decide)) len_is_garden (av_cons (ev_var 4) av_nil)))) (fun _ _ _ _ _ => (ev_var 4)) (sw_true rfl rfl rfl (by decide +kernel)))
      (svs_cons (sv_if (tv_cmp (op_neD (hu64 hr)) d_ne (ev_callB call_len_seq d_len nb.n_len bt_len (av_cons (ev_var 3) av_nil)) (ev_callBL call_len_seq l_len nb.n_len bt_len (eb_o (eo_lc (own := [(Str.ofString "row", 4)]) rfl sc__law_number_right.nd (iv_seq (ev_var 2)) (blkOk_by (own := [(Str.ofString "row", 4)]) (show blkC N__law_number_right (defScope s__law_number_right) _ _ = true by decide +kernel)) (fun _ _ _ _ _ => pg_name (i := 4) sc__law_number_right.nd rfl (Or.inl rfl)) (tgw_name (by decide)) (fun _ _ _ _ _ _ => pts_if (tv_cmp op_ge d_ge (ev_cal D_rank (hr.mono (by decide)) len_rank (av_cons (ev_var 4) av_nil)) ev_int)) (fun _ _ _ _ _ => (ev_var 4)))))) (svs_one (sv_ret ev_bl)) svs_nil)
      (svs_cons (sv_set 5 (ev_bin op_addA d_add ev_int (ev_calI 0 D__law_draw (hr.mono (by decide)) len__law_draw (av_cons ev_int av_nil))) sc__law_number_right.nd)
      (svs_cons (sv_parA2 6 7 (mv_v (ev_cal D_by_rank (hr.mono (by decide)) len_by_rank (av_cons (ev_var 1) (av_cons (ev_var 5) av_nil))) (mv_o (eo_rep (ev_o (eo_lst (av_cons ev_int av_nil))) (ev_var 5)) mv_nil)) rfl sc__law_number_right.nd)
      (svs_cons (sv_for PassesOwn.never rfl (iv_seq (ev_var 2)) (gv_name 4 sc__law_number_right.nd) (svs_cons (sv_set 8 (ev_bin op_mod d_mod (ev_callTy call_int1 d_int nb.n_int bt_int (av_cons (ev_cal D_rank (hr.mono (by decide)) len_rank (av_cons (ev_var 4) av_nil)) av_nil)) (ev_var 5)) sc__law_number_right.nd)
      (svs_one (sv_setIx 7 (ev_bin op_addA d_add (ev_ixO 7 (ev_var 8)) ev_int) (ev_var 8)))))
      (svs_one (sv_ret (ev_and (ev_cal D__law_alike (hr.mono (by decide)) (len__law_alike 40) (av_cons (ev_var 6) (av_cons (ev_callTyL call_tuple_of l_tup nb.n_tuple bt_tuple (eb_var 7)) av_nil))) (ev_one (ev_cmp (op_eqD (hu64 hr)) d_eq (ev_slLo (ev_calK0 D_by_rank (hr.mono (by decide)) len_by_rank (m0 := 0) (m := 2) (π := [1, 0]) (ks := [Str.ofString "by", Str.ofString "number"]) (fun _ _ _ _ _ _ us ws h1 h2 => match us, h1, ws, h2 with | [], _, [_, _], _ => rfl) (kv_cons (ev_var 5) (kv_cons (ev_var 1) kv_nil))) ev_int) (ev_rev (ev_slLo (ev_var 6) ev_int))))))))))))))
abbrev s__law_right : Stmt := top 43
abbrev N__law_right : List Str := ["bag", "rows", "row"]
abbrev p__law_right : List Str := ["bag"]
theorem sc__law_right : FnScope N__law_right p__law_right (defScope s__law_right) := ⟨rfl, rfl, rfl, by decide +kernel, rfl, by decide +kernel, by decide +kernel⟩
def g__law_right : S → Option Fl :=
  (seqs (setv 1 (mkT (acons (callI 0 F__law_row (acons (callI 0 F__law_draw (acons (cst (.int 40)) anil)) anil)) (acons (callI 0 F__law_row (acons (callI 0 F__law_draw (acons (cst (.int 201)) anil)) anil)) (acons (callI 0 F__law_row (acons (bin2 (cst (.int 200)) (callI 0 F__law_draw (acons (cst (.int 401)) anil)) addD) anil)) (acons (bin2 (mkT (acons (cst (.int 1)) anil)) (callI 0 F__law_draw (acons (cst (.int 90)) anil)) mulT) (acons (mkT anil) anil)))))))
  (seqs (ifs (tst (bin2 (ofO (lcS [2] (itS (getv 1)) (tgN 2) (nott (tst (callF F__law_row_right (acons (getv 2) anil)))) (cst (.int 1)))) (ofO (mkL anil)) neD)) (retv (cst (.bl false))) nxt)
  (retv (andv (callI 0 F__law_number_right (acons (callI 0 F__law_draw (acons (cst (.int 19)) anil)) anil)) (callI 0 F__law_number_right (acons (callI 0 F__law_draw (acons (cst (.int 12)) anil)) anil))))))
def F__law_right : List D → List D → Option (Rt × List D) := runI g__law_right 1 3
theorem len__law_right : ∀ m ds, F__law_right m ds ≠ none → ds.length + 1 = 1 := runI_len
theorem ok__law_right {P : Program} {w : World} {K : PySem.W.Frag} {mg : Str → Option Value} {base : Heap} (nb : Nb mg) (hat : At K mg "_law_right" s__law_right p__law_right) (D__law_row : Df P w K mg base 2 "_law_row" s__law_row p__law_row (spI K 2 F__law_row)) (D__law_draw : Df P w K mg base 1 "_law_draw" s__law_draw p__law_draw (spI K 2 F__law_draw)) (D__law_row_right : Df P w K mg base 41 "_law_row_right" s__law_row_right p__law_row_right (spV K 1 F__law_row_right)) (D__law_number_right : Df P w K mg base 42 "_law_number_right" s__law_number_right p__law_number_right (spI K 2 F__law_number_right)) : Df P w K mg base 43 "_law_right" s__law_right p__law_right (spI K 1 F__law_right) :=
  df_i (k := 42) (N := N__law_right) hat sc__law_right (by decide) fun f cdv A outer s H E hr =>
    (show SVs _ (defBody s__law_right) g__law_right from
    (svs_cons (sv_set 1 (ev_tup (av_cons (ev_calI 0 D__law_row (hr.mono (by decide)) len__law_row (av_cons (ev_calI 0 D__law_draw (hr.mono (by decide)) len__law_draw (av_cons ev_int av_nil)) av_nil)) (av_cons (ev_calI 0 D__law_row (hr.mono (by decide)) len__law_row (av_cons (ev_calI 0 D__law_draw (hr.mono (by decide)) len__law_draw (av_cons ev_int av_nil)) av_nil)) (av_cons (ev_calI 0 D__law_row (hr.mono (by decide)) len__law_row (av_cons (ev_bin op_addA d_add ev_int (ev_calI 0 D__law_draw (hr.mono (by decide)) len__law_draw (av_cons ev_int av_nil))) av_nil)) (av_cons (ev_bin op_mulT d_mulT (ev_tup (av_cons ev_int av_nil)) (ev_calI 0 D__law_draw (hr.mono (by decide)) len__law_draw (av_cons ev_int av_nil))) (av_cons (ev_tup av_nil) av_nil)))))) sc__law_right.nd)
      (svs_cons (sv_if (tv_cmp (op_neD (hu64 hr)) d_ne (ev_o (eo_lc (own := [(Str.ofString "row", 2)]) rfl sc__law_right.nd (iv_seq (ev_var 1)) (blkOk_by (own := [(Str.ofString "row", 2)]) (show blkC N__law_right (defScope s__law_right) _ _ = true by decide +kernel)) (fun _ _ _ _ _ => pg_name (i := 2) sc__law_right.nd rfl (Or.inl rfl)) (tgw_name (by decide)) (fun _ _ _ _ _ _ => pts_if (tv_not (tv_val (ev_cal D__law_row_right (hr.mono (by decide)) len__law_row_right (av_cons (ev_var 2) av_nil))))) (fun _ _ _ _ _ => ev_int))) (ev_o (eo_lst av_nil))) (svs_one (sv_ret ev_bl)) svs_nil)
      (svs_one (sv_ret (ev_and (ev_calI 0 D__law_number_right (hr.mono (by decide)) len__law_number_right (av_cons (ev_calI 0 D__law_draw (hr.mono (by decide)) len__law_draw (av_cons ev_int av_nil)) av_nil)) (ev_one (ev_calI 0 D__law_number_right (hr.mono (by decide)) len__law_number_right (av_cons (ev_calI 0 D__law_draw (hr.mono (by decide)) len__law_draw (av_cons ev_int av_nil)) av_nil)))))))))
abbrev s_law : Stmt := top 44
abbrev N_law : List Str := ["script", "lap"]
abbrev p_law : List Str := ["script"]
theorem sc_law : FnScope N_law p_law (defScope s_law) := ⟨rfl, rfl, rfl, by decide +kernel, rfl, by decide +kernel, by decide +kernel⟩
def g_law : S → Option Fl :=
  (seqs (fors (itR1 (acons (cst (.int 2)) anil)) (tgN 1) (ifs (nott (tst (callN F__law_right (callFo F__law_bag (acons (getv 0) (acons (getv 1) anil))) anil))) (retv (cst (.bl false))) nxt))
  (retv (bin2 (mkT (acons (callF F_is_garden (acons (mkT (acons (cst (.int 2)) (acons (cst (.int 2)) (acons (cst (.int 2)) (acons (cst (.int 2)) anil))))) anil)) (acons (callF F_dealt_from (acons (mkT (acons (cst (.int 2)) (acons (cst (.int 2)) (acons (cst (.int 2)) (acons (cst (.int 2)) anil))))) anil)) (acons (callF F_is_garden (acons (mkT anil) anil)) (acons (callF F_dealt (acons (mkT (acons (cst (.int 4)) (acons (cst (.int 4)) (acons (cst (.int 1)) anil)))) anil)) (acons (callF F_by_rank (acons (cst (.int 9)) (acons (cst (.int 5)) anil))) anil)))))) (mkT (acons (cst (.bl true)) (acons (mkT anil) (acons (cst (.bl false)) (acons (mkT (acons (cst (.int 3)) (acons (cst (.int 3)) (acons (cst (.int 3)) anil)))) (acons (mkT (acons (cst (.int 6)) (acons (cst (.int 6)) (acons (cst (.int 6)) (acons (cst (.int 6)) (acons (cst (.int 6)) anil)))))) anil)))))) eqD)))
def F_law : List D → Option Rt := runV g_law 1 2
theorem len_law : ∀ ds, F_law ds ≠ none → ds.length = 1 := runV_len
theorem ok_law {P : Program} {w : World} {K : PySem.W.Frag} {mg : Str → Option Value} {base : Heap} (nb : Nb mg) (hat : At K mg "law" s_law p_law) (D__law_right : Df P w K mg base 43 "_law_right" s__law_right p__law_right (spI K 1 F__law_right)) (D__law_bag : Df P w K mg base 1 "_law_bag" s__law_bag p__law_bag (spV K 2 F__law_bag)) (D_is_garden : Df P w K mg base 5 "is_garden" s_is_garden p_is_garden (spV K 1 F_is_garden)) (D_dealt_from : Df P w K mg base 5 "dealt_from" s_dealt_from p_dealt_from (spV K 1 F_dealt_from)) (D_dealt : Df P w K mg base 5 "dealt" s_dealt p_dealt (spV K 1 F_dealt)) (D_by_rank : Df P w K mg base 41 "by_rank" s_by_rank p_by_rank (spV K 2 F_by_rank)) : Df P w K mg base 44 "law" s_law p_law (spV K 1 F_law) :=
  df_v (k := 43) (N := N_law) hat sc_law (by decide) fun f cdv A outer s H E hr =>
    (show SVs _ (defBody s_law) g_law from
    (svs_cons (sv_for PassesOwn.never rfl (iv_range1 (av_cons ev_int av_nil) nb.n_range) (gv_name 1 sc_law.nd) (svs_one (sv_if (tv_not (tv_val (ev_calN D__law_right (hr.mono (by decide)) len__law_right (eo_cal D__law_bag (hr.mono (by decide)) len__law_bag (av_cons (ev_var 0) (av_cons (ev_var 1) av_nil))) av_nil))) (svs_one (sv_ret ev_bl)) svs_nil)))
      (svs_one (sv_ret (ev_cmp (op_eqD (hu64 hr)) d_eq (ev_tup (av_cons (ev_cal D_is_garden (hr.mono (by decide)) len_is_garden (av_cons (ev_tup (av_cons ev_int (av_cons ev_int (av_cons ev_int (av_cons ev_int av_nil))))) av_nil)) (av_cons (ev_cal D_dealt_from (hr.mono (by decide)) len_dealt_from (av_cons (ev_tup (av_cons ev_int (av_cons ev_int (av_cons ev_int (av_cons ev_int av_nil))))) av_nil)) (av_cons (ev_cal D_is_garden (hr.mono (by decide)) len_is_garden (av_cons (ev_tup av_nil) av_nil)) (av_cons (ev_cal D_dealt (hr.mono (by decide)) len_dealt (av_cons (ev_tup (av_cons ev_int (av_cons ev_int (av_cons ev_int av_nil)))) av_nil)) (av_cons (ev_cal D_by_rank (hr.mono (by decide)) len_by_rank (av_cons ev_int (av_cons ev_int av_nil))) av_nil)))))) (ev_tup (av_cons ev_bl (av_cons (ev_tup av_nil) (av_cons ev_bl (av_cons (ev_tup (av_cons ev_int (av_cons ev_int (av_cons ev_int av_nil)))) (av_cons (ev_tup (av_cons ev_int (av_cons ev_int (av_cons ev_int (av_cons ev_int (av_cons ev_int av_nil)))))) av_nil)))))))))))
end K65
namespace K65
open PySem L2 DL DLT PyProof.Rows
theorem e_is_integer (i : Int) : F_is_integer [.int i] = some (.v (.bl true)) := by
  simp only [F_is_integer, g_is_integer, runV, runI, entV, entI, endV, endI, seqs, ifs, retv, reto, setv, seto, asg, drop1, retn, getv, geto, cst, bor, ofO, ofV, asL, seqD, bin2, bin2o, tst, chn, andv, orv, notv, ifv, andt, ort, nott, anil, acons, astar, astarB, mkT, mkL, call1, callo, callF, callFo, callKF, perm, rtD, S.setv, S.setO, szOk, subD_e, ltD_e, leD_e, gtD_e, geD_e, modD_e, fdivD_e, powD_e, addD_i, addD_l, addD_t, mulT_i, mulT_l, mulT_t, mulOk, negF, eqD, neD, isN, notN, ixD_t, ixD_l, ixD_f, lenD_t, lenD_l, lenD_f, lenL, tupD_t, tupD_l, tupD_f, tupL, listD_t, listD_l, listD_f, listL, intD_i, intD_b, absD_e, max2D, min2D, sumL, sumD_t, sumD_l, sortedV_t, sortedV_l, sortedV_f, sortedG_ints, isi_int, isi_bl, isi_tup, isi_lst, isi_str, isi_non, kb_ii, kb_ib, kb_is, kb_it, kb_il, kb_bi, kb_bb, kb_bs, kb_bt, kb_bl, kb_ti, kb_tb, kb_ts, kb_tt, kb_tl, kb_li, kb_lb, kb_ls, kb_lt, kb_ll, kb_si, kb_sb, kb_ss, kb_st, kb_sl, kb_ni, kb_nb, kb_ns, kb_nt, kb_nl, nxt, never, brk, ctn, itS, parA, mnil, mcv, mco, setAll, tgN, tgT, tgsC, tgs0, yes, lcStep, wipeS, wipeL, backS, backL, keepS, intsD_map, boolsD_map, sortRo, revF, revD, callN, callI, ownO, putO, ixO, setIx, appE, Option.bind_some, Option.map_some, Option.bind_none, Option.map_none, List.length_cons, List.length_nil, List.length_map, List.map_cons, List.map_nil, List.cons_append, List.nil_append, List.append_nil, List.replicate_succ, List.replicate_zero, List.reduceReplicate, List.getElem?_cons_zero, List.getElem?_cons_succ, List.getElem?_nil, List.set_cons_zero, List.set_cons_succ, Nat.reduceAdd, Nat.reduceSub, Nat.reduceMul, Nat.reduceEqDiff, Nat.reduceLeDiff, Nat.reduceLT, Int.add_zero, Int.zero_add, List.map_reverse, Nat.reduceBEq, Int.reduceAdd, Int.reduceSub, Int.reduceLT, Int.reduceLE, Int.reduceEq, Int.reduceNeg, Int.reduceToNat, Int.reduceMul, Nat.zero_add, Nat.add_zero, if_true, if_false, reduceIte, decide_true, decide_false, decide_eq_true_eq, Bool.not_true, Bool.not_false, Bool.and_true, Bool.true_and, Bool.and_self, Bool.and_false, Bool.false_and, Bool.or_true, Bool.true_or, Bool.or_false, Bool.false_or, Bool.false_eq_true, Bool.true_eq_false, and_self, and_true, true_and, true_or, or_true, Bool.or_self, Bool.not_not, Function.comp_apply, ne_eq, not_true_eq_false, not_false_eq_true, allL_yes, List.filterMap_cons, List.filterMap_nil]
theorem e_is_within (i a b : Int) (h1 : a ≤ i) (h2 : i ≤ b) : F_is_within_bounds [.int i, .int a, .int b] = some (.v (.bl true)) := by
  simp only [F_is_within_bounds, g_is_within_bounds, e_is_integer, runV, runI, entV, entI, endV, endI, seqs, ifs, retv, reto, setv, seto, asg, drop1, retn, getv, geto, cst, bor, ofO, ofV, asL, seqD, bin2, bin2o, tst, chn, andv, orv, notv, ifv, andt, ort, nott, anil, acons, astar, astarB, mkT, mkL, call1, callo, callF, callFo, callKF, perm, rtD, S.setv, S.setO, szOk, subD_e, ltD_e, leD_e, gtD_e, geD_e, modD_e, fdivD_e, powD_e, addD_i, addD_l, addD_t, mulT_i, mulT_l, mulT_t, mulOk, negF, eqD, neD, isN, notN, ixD_t, ixD_l, ixD_f, lenD_t, lenD_l, lenD_f, lenL, tupD_t, tupD_l, tupD_f, tupL, listD_t, listD_l, listD_f, listL, intD_i, intD_b, absD_e, max2D, min2D, sumL, sumD_t, sumD_l, sortedV_t, sortedV_l, sortedV_f, sortedG_ints, isi_int, isi_bl, isi_tup, isi_lst, isi_str, isi_non, kb_ii, kb_ib, kb_is, kb_it, kb_il, kb_bi, kb_bb, kb_bs, kb_bt, kb_bl, kb_ti, kb_tb, kb_ts, kb_tt, kb_tl, kb_li, kb_lb, kb_ls, kb_lt, kb_ll, kb_si, kb_sb, kb_ss, kb_st, kb_sl, kb_ni, kb_nb, kb_ns, kb_nt, kb_nl, nxt, never, brk, ctn, itS, parA, mnil, mcv, mco, setAll, tgN, tgT, tgsC, tgs0, yes, lcStep, wipeS, wipeL, backS, backL, keepS, intsD_map, boolsD_map, sortRo, revF, revD, callN, callI, ownO, putO, ixO, setIx, appE, Option.bind_some, Option.map_some, Option.bind_none, Option.map_none, List.length_cons, List.length_nil, List.length_map, List.map_cons, List.map_nil, List.cons_append, List.nil_append, List.append_nil, List.replicate_succ, List.replicate_zero, List.reduceReplicate, List.getElem?_cons_zero, List.getElem?_cons_succ, List.getElem?_nil, List.set_cons_zero, List.set_cons_succ, Nat.reduceAdd, Nat.reduceSub, Nat.reduceMul, Nat.reduceEqDiff, Nat.reduceLeDiff, Nat.reduceLT, Int.add_zero, Int.zero_add, List.map_reverse, Nat.reduceBEq, Int.reduceAdd, Int.reduceSub, Int.reduceLT, Int.reduceLE, Int.reduceEq, Int.reduceNeg, Int.reduceToNat, Int.reduceMul, Nat.zero_add, Nat.add_zero, if_true, if_false, reduceIte, decide_true, decide_false, decide_eq_true_eq, Bool.not_true, Bool.not_false, Bool.and_true, Bool.true_and, Bool.and_self, Bool.and_false, Bool.false_and, Bool.or_true, Bool.true_or, Bool.or_false, Bool.false_or, Bool.false_eq_true, Bool.true_eq_false, and_self, and_true, true_and, true_or, or_true, Bool.or_self, Bool.not_not, Function.comp_apply, ne_eq, not_true_eq_false, not_false_eq_true, allL_yes, List.filterMap_cons, List.filterMap_nil, h1, h2]
theorem e_check_within (i a b : Int) (h1 : a ≤ i) (h2 : i ≤ b) : F_check_within [.int i, .int a, .int b] = some (.v .non) := by
  simp only [F_check_within, g_check_within, e_is_within i a b h1 h2, runV, runI, entV, entI, endV, endI, seqs, ifs, retv, reto, setv, seto, asg, drop1, retn, getv, geto, cst, bor, ofO, ofV, asL, seqD, bin2, bin2o, tst, chn, andv, orv, notv, ifv, andt, ort, nott, anil, acons, astar, astarB, mkT, mkL, call1, callo, callF, callFo, callKF, perm, rtD, S.setv, S.setO, szOk, subD_e, ltD_e, leD_e, gtD_e, geD_e, modD_e, fdivD_e, powD_e, addD_i, addD_l, addD_t, mulT_i, mulT_l, mulT_t, mulOk, negF, eqD, neD, isN, notN, ixD_t, ixD_l, ixD_f, lenD_t, lenD_l, lenD_f, lenL, tupD_t, tupD_l, tupD_f, tupL, listD_t, listD_l, listD_f, listL, intD_i, intD_b, absD_e, max2D, min2D, sumL, sumD_t, sumD_l, sortedV_t, sortedV_l, sortedV_f, sortedG_ints, isi_int, isi_bl, isi_tup, isi_lst, isi_str, isi_non, kb_ii, kb_ib, kb_is, kb_it, kb_il, kb_bi, kb_bb, kb_bs, kb_bt, kb_bl, kb_ti, kb_tb, kb_ts, kb_tt, kb_tl, kb_li, kb_lb, kb_ls, kb_lt, kb_ll, kb_si, kb_sb, kb_ss, kb_st, kb_sl, kb_ni, kb_nb, kb_ns, kb_nt, kb_nl, nxt, never, brk, ctn, itS, parA, mnil, mcv, mco, setAll, tgN, tgT, tgsC, tgs0, yes, lcStep, wipeS, wipeL, backS, backL, keepS, intsD_map, boolsD_map, sortRo, revF, revD, callN, callI, ownO, putO, ixO, setIx, appE, Option.bind_some, Option.map_some, Option.bind_none, Option.map_none, List.length_cons, List.length_nil, List.length_map, List.map_cons, List.map_nil, List.cons_append, List.nil_append, List.append_nil, List.replicate_succ, List.replicate_zero, List.reduceReplicate, List.getElem?_cons_zero, List.getElem?_cons_succ, List.getElem?_nil, List.set_cons_zero, List.set_cons_succ, Nat.reduceAdd, Nat.reduceSub, Nat.reduceMul, Nat.reduceEqDiff, Nat.reduceLeDiff, Nat.reduceLT, Int.add_zero, Int.zero_add, List.map_reverse, Nat.reduceBEq, Int.reduceAdd, Int.reduceSub, Int.reduceLT, Int.reduceLE, Int.reduceEq, Int.reduceNeg, Int.reduceToNat, Int.reduceMul, Nat.zero_add, Nat.add_zero, if_true, if_false, reduceIte, decide_true, decide_false, decide_eq_true_eq, Bool.not_true, Bool.not_false, Bool.and_true, Bool.true_and, Bool.and_self, Bool.and_false, Bool.false_and, Bool.or_true, Bool.true_or, Bool.or_false, Bool.false_or, Bool.false_eq_true, Bool.true_eq_false, and_self, and_true, true_and, true_or, or_true, Bool.or_self, Bool.not_not, Function.comp_apply, ne_eq, not_true_eq_false, not_false_eq_true, allL_yes, List.filterMap_cons, List.filterMap_nil]
/-- a row that the program takes -/
def Ok (r : List Int) : Prop := Row r ∧ r.sum ≤ 600
theorem Ok.len {r : List Int} (h : Ok r) : (r.length : Int) ≤ 600 := by have := sum_pos h.1.2; have := h.2; omega
theorem Ok.le {r : List Int} (h : Ok r) : ∀ x ∈ r, x ≤ 600 := fun x hx => by have := mem_le_sum h.1.2 x hx; have := h.2; omega
theorem e_is_falling (r : List Int) (h : Ok r) : F_is_falling [.tup (r.map .int), .int 0] = some (.v (.bl true)) := by
  have hl := h.len
  have e : lcS [2] (itR1 (acons (bin2 (call1 (acons (getv 0) anil) lenD) (cst (.int 1)) subD) anil)) (tgN 2) yes (bin2 (bin2 (getv 0) (getv 2) ixD) (bin2 (bin2 (getv 0) (bin2 (getv 2) (cst (.int 1)) addD) ixD) (getv 1) addD) geD) ⟨[.v (.tup (r.map .int)), .v (.int 0), .no], []⟩
      = some (((List.range (r.length - 1)).map fun _ => true).map .bl, ⟨[.v (.tup (r.map .int)), .v (.int 0), .no], []⟩) := by
    rw [List.map_map]
    refine lcS_map (s1 := ⟨[.v (.tup (r.map .int)), .v (.int 0), .no], []⟩) (fun i => .int (0 + (i : Nat))) _ (List.range (r.length - 1)) ?_ (by simp; omega) fun i hi => ?_
    · have e1 : r62 ((r.length : Int) - 1) = true := r62_s _ (by omega) (by omega)
      have e2 : ((r.length : Int) - 1).toNat = r.length - 1 := by omega
      simp only [itR1, runV, runI, entV, entI, endV, endI, seqs, ifs, retv, reto, setv, seto, asg, drop1, retn, getv, geto, cst, bor, ofO, ofV, asL, seqD, bin2, bin2o, tst, chn, andv, orv, notv, ifv, andt, ort, nott, anil, acons, astar, astarB, mkT, mkL, call1, callo, callF, callFo, callKF, perm, rtD, S.setv, S.setO, szOk, subD_e, ltD_e, leD_e, gtD_e, geD_e, modD_e, fdivD_e, powD_e, addD_i, addD_l, addD_t, mulT_i, mulT_l, mulT_t, mulOk, negF, eqD, neD, isN, notN, ixD_t, ixD_l, ixD_f, lenD_t, lenD_l, lenD_f, lenL, tupD_t, tupD_l, tupD_f, tupL, listD_t, listD_l, listD_f, listL, intD_i, intD_b, absD_e, max2D, min2D, sumL, sumD_t, sumD_l, sortedV_t, sortedV_l, sortedV_f, sortedG_ints, isi_int, isi_bl, isi_tup, isi_lst, isi_str, isi_non, kb_ii, kb_ib, kb_is, kb_it, kb_il, kb_bi, kb_bb, kb_bs, kb_bt, kb_bl, kb_ti, kb_tb, kb_ts, kb_tt, kb_tl, kb_li, kb_lb, kb_ls, kb_lt, kb_ll, kb_si, kb_sb, kb_ss, kb_st, kb_sl, kb_ni, kb_nb, kb_ns, kb_nt, kb_nl, nxt, never, brk, ctn, itS, parA, mnil, mcv, mco, setAll, tgN, tgT, tgsC, tgs0, yes, lcStep, wipeS, wipeL, backS, backL, keepS, intsD_map, boolsD_map, sortRo, revF, revD, callN, callI, ownO, putO, ixO, setIx, appE, Option.bind_some, Option.map_some, Option.bind_none, Option.map_none, List.length_cons, List.length_nil, List.length_map, List.map_cons, List.map_nil, List.cons_append, List.nil_append, List.append_nil, List.replicate_succ, List.replicate_zero, List.reduceReplicate, List.getElem?_cons_zero, List.getElem?_cons_succ, List.getElem?_nil, List.set_cons_zero, List.set_cons_succ, Nat.reduceAdd, Nat.reduceSub, Nat.reduceMul, Nat.reduceEqDiff, Nat.reduceLeDiff, Nat.reduceLT, Int.add_zero, Int.zero_add, List.map_reverse, Nat.reduceBEq, Int.reduceAdd, Int.reduceSub, Int.reduceLT, Int.reduceLE, Int.reduceEq, Int.reduceNeg, Int.reduceToNat, Int.reduceMul, Nat.zero_add, Nat.add_zero, if_true, if_false, reduceIte, decide_true, decide_false, decide_eq_true_eq, Bool.not_true, Bool.not_false, Bool.and_true, Bool.true_and, Bool.and_self, Bool.and_false, Bool.false_and, Bool.or_true, Bool.true_or, Bool.or_false, Bool.false_or, Bool.false_eq_true, Bool.true_eq_false, and_self, and_true, true_and, true_or, or_true, Bool.or_self, Bool.not_not, Function.comp_apply, ne_eq, not_true_eq_false, not_false_eq_true, allL_yes, List.filterMap_cons, List.filterMap_nil, e1, rng, e2]
    · have hi := List.mem_range.mp hi
      have a1 := atI_ints r (i : Int) (by omega) (by omega)
      have a2 := atI_ints r ((i : Int) + 1) (by omega) (by omega)
      have e3 : ((i : Int) + 1).toNat = i + 1 := by omega
      have h3 : r.getD (i + 1) 0 ≤ r.getD i 0 := by
        have h4 : i < r.length := by omega
        have h5 : i + 1 < r.length := by omega
        have := List.pairwise_iff_getElem.mp h.1.1 i (i + 1) h4 h5 (by omega)
        simpa [List.getD_eq_getElem?_getD, h4, h5] using this
      rw [Int.toNat_natCast] at a1
      rw [e3] at a2
      simp only [Int.zero_add]
      simp only [runV, runI, entV, entI, endV, endI, seqs, ifs, retv, reto, setv, seto, asg, drop1, retn, getv, geto, cst, bor, ofO, ofV, asL, seqD, bin2, bin2o, tst, chn, andv, orv, notv, ifv, andt, ort, nott, anil, acons, astar, astarB, mkT, mkL, call1, callo, callF, callFo, callKF, perm, rtD, S.setv, S.setO, szOk, subD_e, ltD_e, leD_e, gtD_e, geD_e, modD_e, fdivD_e, powD_e, addD_i, addD_l, addD_t, mulT_i, mulT_l, mulT_t, mulOk, negF, eqD, neD, isN, notN, ixD_t, ixD_l, ixD_f, lenD_t, lenD_l, lenD_f, lenL, tupD_t, tupD_l, tupD_f, tupL, listD_t, listD_l, listD_f, listL, intD_i, intD_b, absD_e, max2D, min2D, sumL, sumD_t, sumD_l, sortedV_t, sortedV_l, sortedV_f, sortedG_ints, isi_int, isi_bl, isi_tup, isi_lst, isi_str, isi_non, kb_ii, kb_ib, kb_is, kb_it, kb_il, kb_bi, kb_bb, kb_bs, kb_bt, kb_bl, kb_ti, kb_tb, kb_ts, kb_tt, kb_tl, kb_li, kb_lb, kb_ls, kb_lt, kb_ll, kb_si, kb_sb, kb_ss, kb_st, kb_sl, kb_ni, kb_nb, kb_ns, kb_nt, kb_nl, nxt, never, brk, ctn, itS, parA, mnil, mcv, mco, setAll, tgN, tgT, tgsC, tgs0, yes, lcStep, wipeS, wipeL, backS, backL, keepS, intsD_map, boolsD_map, sortRo, revF, revD, callN, callI, ownO, putO, ixO, setIx, appE, Option.bind_some, Option.map_some, Option.bind_none, Option.map_none, List.length_cons, List.length_nil, List.length_map, List.map_cons, List.map_nil, List.cons_append, List.nil_append, List.append_nil, List.replicate_succ, List.replicate_zero, List.reduceReplicate, List.getElem?_cons_zero, List.getElem?_cons_succ, List.getElem?_nil, List.set_cons_zero, List.set_cons_succ, Nat.reduceAdd, Nat.reduceSub, Nat.reduceMul, Nat.reduceEqDiff, Nat.reduceLeDiff, Nat.reduceLT, Int.add_zero, Int.zero_add, List.map_reverse, Nat.reduceBEq, Int.reduceAdd, Int.reduceSub, Int.reduceLT, Int.reduceLE, Int.reduceEq, Int.reduceNeg, Int.reduceToNat, Int.reduceMul, Nat.zero_add, Nat.add_zero, if_true, if_false, reduceIte, decide_true, decide_false, decide_eq_true_eq, Bool.not_true, Bool.not_false, Bool.and_true, Bool.true_and, Bool.and_self, Bool.and_false, Bool.false_and, Bool.or_true, Bool.true_or, Bool.or_false, Bool.false_or, Bool.false_eq_true, Bool.true_eq_false, and_self, and_true, true_and, true_or, or_true, Bool.or_self, Bool.not_not, Function.comp_apply, ne_eq, not_true_eq_false, not_false_eq_true, allL_yes, List.filterMap_cons, List.filterMap_nil, a1, a2, h3]
  simp only [F_is_falling, g_is_falling, e, runV, runI, entV, entI, endV, endI, seqs, ifs, retv, reto, setv, seto, asg, drop1, retn, getv, geto, cst, bor, ofO, ofV, asL, seqD, bin2, bin2o, tst, chn, andv, orv, notv, ifv, andt, ort, nott, anil, acons, astar, astarB, mkT, mkL, call1, callo, callF, callFo, callKF, perm, rtD, S.setv, S.setO, szOk, subD_e, ltD_e, leD_e, gtD_e, geD_e, modD_e, fdivD_e, powD_e, addD_i, addD_l, addD_t, mulT_i, mulT_l, mulT_t, mulOk, negF, eqD, neD, isN, notN, ixD_t, ixD_l, ixD_f, lenD_t, lenD_l, lenD_f, lenL, tupD_t, tupD_l, tupD_f, tupL, listD_t, listD_l, listD_f, listL, intD_i, intD_b, absD_e, max2D, min2D, sumL, sumD_t, sumD_l, sortedV_t, sortedV_l, sortedV_f, sortedG_ints, isi_int, isi_bl, isi_tup, isi_lst, isi_str, isi_non, kb_ii, kb_ib, kb_is, kb_it, kb_il, kb_bi, kb_bb, kb_bs, kb_bt, kb_bl, kb_ti, kb_tb, kb_ts, kb_tt, kb_tl, kb_li, kb_lb, kb_ls, kb_lt, kb_ll, kb_si, kb_sb, kb_ss, kb_st, kb_sl, kb_ni, kb_nb, kb_ns, kb_nt, kb_nl, nxt, never, brk, ctn, itS, parA, mnil, mcv, mco, setAll, tgN, tgT, tgsC, tgs0, yes, lcStep, wipeS, wipeL, backS, backL, keepS, intsD_map, boolsD_map, sortRo, revF, revD, callN, callI, ownO, putO, ixO, setIx, appE, Option.bind_some, Option.map_some, Option.bind_none, Option.map_none, List.length_cons, List.length_nil, List.length_map, List.map_cons, List.map_nil, List.cons_append, List.nil_append, List.append_nil, List.replicate_succ, List.replicate_zero, List.reduceReplicate, List.getElem?_cons_zero, List.getElem?_cons_succ, List.getElem?_nil, List.set_cons_zero, List.set_cons_succ, Nat.reduceAdd, Nat.reduceSub, Nat.reduceMul, Nat.reduceEqDiff, Nat.reduceLeDiff, Nat.reduceLT, Int.add_zero, Int.zero_add, List.map_reverse, Nat.reduceBEq, Int.reduceAdd, Int.reduceSub, Int.reduceLT, Int.reduceLE, Int.reduceEq, Int.reduceNeg, Int.reduceToNat, Int.reduceMul, Nat.zero_add, Nat.add_zero, if_true, if_false, reduceIte, decide_true, decide_false, decide_eq_true_eq, Bool.not_true, Bool.not_false, Bool.and_true, Bool.true_and, Bool.and_self, Bool.and_false, Bool.false_and, Bool.or_true, Bool.true_or, Bool.or_false, Bool.false_or, Bool.false_eq_true, Bool.true_eq_false, and_self, and_true, true_and, true_or, or_true, Bool.or_self, Bool.not_not, Function.comp_apply, ne_eq, not_true_eq_false, not_false_eq_true, allL_yes, List.filterMap_cons, List.filterMap_nil]
theorem e_is_row (r : List Int) (h : Ok r) : F_is_row [.tup (r.map .int)] = some (.v (.bl true)) := by
  have hl := h.len
  have e : lcS [1] (itS (getv 0)) (tgN 1) yes (callF F_is_within_bounds (acons (getv 1) (acons (cst (.int 1)) (acons (cst (.int 600)) anil)))) ⟨[.v (.tup (r.map .int)), .no], []⟩
      = some ((r.map fun _ => true).map .bl, ⟨[.v (.tup (r.map .int)), .no], []⟩) := by
    rw [List.map_map]
    refine lcS_map (s1 := ⟨[.v (.tup (r.map .int)), .no], []⟩) .int _ r (by simp only [runV, runI, entV, entI, endV, endI, seqs, ifs, retv, reto, setv, seto, asg, drop1, retn, getv, geto, cst, bor, ofO, ofV, asL, seqD, bin2, bin2o, tst, chn, andv, orv, notv, ifv, andt, ort, nott, anil, acons, astar, astarB, mkT, mkL, call1, callo, callF, callFo, callKF, perm, rtD, S.setv, S.setO, szOk, subD_e, ltD_e, leD_e, gtD_e, geD_e, modD_e, fdivD_e, powD_e, addD_i, addD_l, addD_t, mulT_i, mulT_l, mulT_t, mulOk, negF, eqD, neD, isN, notN, ixD_t, ixD_l, ixD_f, lenD_t, lenD_l, lenD_f, lenL, tupD_t, tupD_l, tupD_f, tupL, listD_t, listD_l, listD_f, listL, intD_i, intD_b, absD_e, max2D, min2D, sumL, sumD_t, sumD_l, sortedV_t, sortedV_l, sortedV_f, sortedG_ints, isi_int, isi_bl, isi_tup, isi_lst, isi_str, isi_non, kb_ii, kb_ib, kb_is, kb_it, kb_il, kb_bi, kb_bb, kb_bs, kb_bt, kb_bl, kb_ti, kb_tb, kb_ts, kb_tt, kb_tl, kb_li, kb_lb, kb_ls, kb_lt, kb_ll, kb_si, kb_sb, kb_ss, kb_st, kb_sl, kb_ni, kb_nb, kb_ns, kb_nt, kb_nl, nxt, never, brk, ctn, itS, parA, mnil, mcv, mco, setAll, tgN, tgT, tgsC, tgs0, yes, lcStep, wipeS, wipeL, backS, backL, keepS, intsD_map, boolsD_map, sortRo, revF, revD, callN, callI, ownO, putO, ixO, setIx, appE, Option.bind_some, Option.map_some, Option.bind_none, Option.map_none, List.length_cons, List.length_nil, List.length_map, List.map_cons, List.map_nil, List.cons_append, List.nil_append, List.append_nil, List.replicate_succ, List.replicate_zero, List.reduceReplicate, List.getElem?_cons_zero, List.getElem?_cons_succ, List.getElem?_nil, List.set_cons_zero, List.set_cons_succ, Nat.reduceAdd, Nat.reduceSub, Nat.reduceMul, Nat.reduceEqDiff, Nat.reduceLeDiff, Nat.reduceLT, Int.add_zero, Int.zero_add, List.map_reverse, Nat.reduceBEq, Int.reduceAdd, Int.reduceSub, Int.reduceLT, Int.reduceLE, Int.reduceEq, Int.reduceNeg, Int.reduceToNat, Int.reduceMul, Nat.zero_add, Nat.add_zero, if_true, if_false, reduceIte, decide_true, decide_false, decide_eq_true_eq, Bool.not_true, Bool.not_false, Bool.and_true, Bool.true_and, Bool.and_self, Bool.and_false, Bool.false_and, Bool.or_true, Bool.true_or, Bool.or_false, Bool.false_or, Bool.false_eq_true, Bool.true_eq_false, and_self, and_true, true_and, true_or, or_true, Bool.or_self, Bool.not_not, Function.comp_apply, ne_eq, not_true_eq_false, not_false_eq_true, allL_yes, List.filterMap_cons, List.filterMap_nil]) (by omega) fun x hx => ?_
    simp only [runV, runI, entV, entI, endV, endI, seqs, ifs, retv, reto, setv, seto, asg, drop1, retn, getv, geto, cst, bor, ofO, ofV, asL, seqD, bin2, bin2o, tst, chn, andv, orv, notv, ifv, andt, ort, nott, anil, acons, astar, astarB, mkT, mkL, call1, callo, callF, callFo, callKF, perm, rtD, S.setv, S.setO, szOk, subD_e, ltD_e, leD_e, gtD_e, geD_e, modD_e, fdivD_e, powD_e, addD_i, addD_l, addD_t, mulT_i, mulT_l, mulT_t, mulOk, negF, eqD, neD, isN, notN, ixD_t, ixD_l, ixD_f, lenD_t, lenD_l, lenD_f, lenL, tupD_t, tupD_l, tupD_f, tupL, listD_t, listD_l, listD_f, listL, intD_i, intD_b, absD_e, max2D, min2D, sumL, sumD_t, sumD_l, sortedV_t, sortedV_l, sortedV_f, sortedG_ints, isi_int, isi_bl, isi_tup, isi_lst, isi_str, isi_non, kb_ii, kb_ib, kb_is, kb_it, kb_il, kb_bi, kb_bb, kb_bs, kb_bt, kb_bl, kb_ti, kb_tb, kb_ts, kb_tt, kb_tl, kb_li, kb_lb, kb_ls, kb_lt, kb_ll, kb_si, kb_sb, kb_ss, kb_st, kb_sl, kb_ni, kb_nb, kb_ns, kb_nt, kb_nl, nxt, never, brk, ctn, itS, parA, mnil, mcv, mco, setAll, tgN, tgT, tgsC, tgs0, yes, lcStep, wipeS, wipeL, backS, backL, keepS, intsD_map, boolsD_map, sortRo, revF, revD, callN, callI, ownO, putO, ixO, setIx, appE, Option.bind_some, Option.map_some, Option.bind_none, Option.map_none, List.length_cons, List.length_nil, List.length_map, List.map_cons, List.map_nil, List.cons_append, List.nil_append, List.append_nil, List.replicate_succ, List.replicate_zero, List.reduceReplicate, List.getElem?_cons_zero, List.getElem?_cons_succ, List.getElem?_nil, List.set_cons_zero, List.set_cons_succ, Nat.reduceAdd, Nat.reduceSub, Nat.reduceMul, Nat.reduceEqDiff, Nat.reduceLeDiff, Nat.reduceLT, Int.add_zero, Int.zero_add, List.map_reverse, Nat.reduceBEq, Int.reduceAdd, Int.reduceSub, Int.reduceLT, Int.reduceLE, Int.reduceEq, Int.reduceNeg, Int.reduceToNat, Int.reduceMul, Nat.zero_add, Nat.add_zero, if_true, if_false, reduceIte, decide_true, decide_false, decide_eq_true_eq, Bool.not_true, Bool.not_false, Bool.and_true, Bool.true_and, Bool.and_self, Bool.and_false, Bool.false_and, Bool.or_true, Bool.true_or, Bool.or_false, Bool.false_or, Bool.false_eq_true, Bool.true_eq_false, and_self, and_true, true_and, true_or, or_true, Bool.or_self, Bool.not_not, Function.comp_apply, ne_eq, not_true_eq_false, not_false_eq_true, allL_yes, List.filterMap_cons, List.filterMap_nil, e_is_within x 1 600 (h.1.2 x hx) (h.le x hx)]
  have h2 := h.2
  simp only [F_is_row, g_is_row, runV, runI, entV, entI, endV, endI, seqs, ifs, retv, reto, setv, seto, asg, drop1, retn, getv, geto, cst, bor, ofO, ofV, asL, seqD, bin2, bin2o, tst, chn, andv, orv, notv, ifv, andt, ort, nott, anil, acons, astar, astarB, mkT, mkL, call1, callo, callF, callFo, callKF, perm, rtD, S.setv, S.setO, szOk, subD_e, ltD_e, leD_e, gtD_e, geD_e, modD_e, fdivD_e, powD_e, addD_i, addD_l, addD_t, mulT_i, mulT_l, mulT_t, mulOk, negF, eqD, neD, isN, notN, ixD_t, ixD_l, ixD_f, lenD_t, lenD_l, lenD_f, lenL, tupD_t, tupD_l, tupD_f, tupL, listD_t, listD_l, listD_f, listL, intD_i, intD_b, absD_e, max2D, min2D, sumL, sumD_t, sumD_l, sortedV_t, sortedV_l, sortedV_f, sortedG_ints, isi_int, isi_bl, isi_tup, isi_lst, isi_str, isi_non, kb_ii, kb_ib, kb_is, kb_it, kb_il, kb_bi, kb_bb, kb_bs, kb_bt, kb_bl, kb_ti, kb_tb, kb_ts, kb_tt, kb_tl, kb_li, kb_lb, kb_ls, kb_lt, kb_ll, kb_si, kb_sb, kb_ss, kb_st, kb_sl, kb_ni, kb_nb, kb_ns, kb_nt, kb_nl, nxt, never, brk, ctn, itS, parA, mnil, mcv, mco, setAll, tgN, tgT, tgsC, tgs0, yes, lcStep, wipeS, wipeL, backS, backL, keepS, intsD_map, boolsD_map, sortRo, revF, revD, callN, callI, ownO, putO, ixO, setIx, appE, Option.bind_some, Option.map_some, Option.bind_none, Option.map_none, List.length_cons, List.length_nil, List.length_map, List.map_cons, List.map_nil, List.cons_append, List.nil_append, List.append_nil, List.replicate_succ, List.replicate_zero, List.reduceReplicate, List.getElem?_cons_zero, List.getElem?_cons_succ, List.getElem?_nil, List.set_cons_zero, List.set_cons_succ, Nat.reduceAdd, Nat.reduceSub, Nat.reduceMul, Nat.reduceEqDiff, Nat.reduceLeDiff, Nat.reduceLT, Int.add_zero, Int.zero_add, List.map_reverse, Nat.reduceBEq, Int.reduceAdd, Int.reduceSub, Int.reduceLT, Int.reduceLE, Int.reduceEq, Int.reduceNeg, Int.reduceToNat, Int.reduceMul, Nat.zero_add, Nat.add_zero, if_true, if_false, reduceIte, decide_true, decide_false, decide_eq_true_eq, Bool.not_true, Bool.not_false, Bool.and_true, Bool.true_and, Bool.and_self, Bool.and_false, Bool.false_and, Bool.or_true, Bool.true_or, Bool.or_false, Bool.false_or, Bool.false_eq_true, Bool.true_eq_false, and_self, and_true, true_and, true_or, or_true, Bool.or_self, Bool.not_not, Function.comp_apply, ne_eq, not_true_eq_false, not_false_eq_true, allL_yes, List.filterMap_cons, List.filterMap_nil, e, e_is_falling r h, h2]
theorem e_check_row (r : List Int) (h : Ok r) : F_check_row [.tup (r.map .int)] = some (.v .non) := by
  simp only [F_check_row, g_check_row, runV, runI, entV, entI, endV, endI, seqs, ifs, retv, reto, setv, seto, asg, drop1, retn, getv, geto, cst, bor, ofO, ofV, asL, seqD, bin2, bin2o, tst, chn, andv, orv, notv, ifv, andt, ort, nott, anil, acons, astar, astarB, mkT, mkL, call1, callo, callF, callFo, callKF, perm, rtD, S.setv, S.setO, szOk, subD_e, ltD_e, leD_e, gtD_e, geD_e, modD_e, fdivD_e, powD_e, addD_i, addD_l, addD_t, mulT_i, mulT_l, mulT_t, mulOk, negF, eqD, neD, isN, notN, ixD_t, ixD_l, ixD_f, lenD_t, lenD_l, lenD_f, lenL, tupD_t, tupD_l, tupD_f, tupL, listD_t, listD_l, listD_f, listL, intD_i, intD_b, absD_e, max2D, min2D, sumL, sumD_t, sumD_l, sortedV_t, sortedV_l, sortedV_f, sortedG_ints, isi_int, isi_bl, isi_tup, isi_lst, isi_str, isi_non, kb_ii, kb_ib, kb_is, kb_it, kb_il, kb_bi, kb_bb, kb_bs, kb_bt, kb_bl, kb_ti, kb_tb, kb_ts, kb_tt, kb_tl, kb_li, kb_lb, kb_ls, kb_lt, kb_ll, kb_si, kb_sb, kb_ss, kb_st, kb_sl, kb_ni, kb_nb, kb_ns, kb_nt, kb_nl, nxt, never, brk, ctn, itS, parA, mnil, mcv, mco, setAll, tgN, tgT, tgsC, tgs0, yes, lcStep, wipeS, wipeL, backS, backL, keepS, intsD_map, boolsD_map, sortRo, revF, revD, callN, callI, ownO, putO, ixO, setIx, appE, Option.bind_some, Option.map_some, Option.bind_none, Option.map_none, List.length_cons, List.length_nil, List.length_map, List.map_cons, List.map_nil, List.cons_append, List.nil_append, List.append_nil, List.replicate_succ, List.replicate_zero, List.reduceReplicate, List.getElem?_cons_zero, List.getElem?_cons_succ, List.getElem?_nil, List.set_cons_zero, List.set_cons_succ, Nat.reduceAdd, Nat.reduceSub, Nat.reduceMul, Nat.reduceEqDiff, Nat.reduceLeDiff, Nat.reduceLT, Int.add_zero, Int.zero_add, List.map_reverse, Nat.reduceBEq, Int.reduceAdd, Int.reduceSub, Int.reduceLT, Int.reduceLE, Int.reduceEq, Int.reduceNeg, Int.reduceToNat, Int.reduceMul, Nat.zero_add, Nat.add_zero, if_true, if_false, reduceIte, decide_true, decide_false, decide_eq_true_eq, Bool.not_true, Bool.not_false, Bool.and_true, Bool.true_and, Bool.and_self, Bool.and_false, Bool.false_and, Bool.or_true, Bool.true_or, Bool.or_false, Bool.false_or, Bool.false_eq_true, Bool.true_eq_false, and_self, and_true, true_and, true_or, or_true, Bool.or_self, Bool.not_not, Function.comp_apply, ne_eq, not_true_eq_false, not_false_eq_true, allL_yes, List.filterMap_cons, List.filterMap_nil, e_is_row r h]
theorem e_falling_row (l : List Int) : F_falling_row [.lst (l.map .int)] = some (.v (.tup ((sortR l).map .int))) := by
  simp only [F_falling_row, g_falling_row, runV, runI, entV, entI, endV, endI, seqs, ifs, retv, reto, setv, seto, asg, drop1, retn, getv, geto, cst, bor, ofO, ofV, asL, seqD, bin2, bin2o, tst, chn, andv, orv, notv, ifv, andt, ort, nott, anil, acons, astar, astarB, mkT, mkL, call1, callo, callF, callFo, callKF, perm, rtD, S.setv, S.setO, szOk, subD_e, ltD_e, leD_e, gtD_e, geD_e, modD_e, fdivD_e, powD_e, addD_i, addD_l, addD_t, mulT_i, mulT_l, mulT_t, mulOk, negF, eqD, neD, isN, notN, ixD_t, ixD_l, ixD_f, lenD_t, lenD_l, lenD_f, lenL, tupD_t, tupD_l, tupD_f, tupL, listD_t, listD_l, listD_f, listL, intD_i, intD_b, absD_e, max2D, min2D, sumL, sumD_t, sumD_l, sortedV_t, sortedV_l, sortedV_f, sortedG_ints, isi_int, isi_bl, isi_tup, isi_lst, isi_str, isi_non, kb_ii, kb_ib, kb_is, kb_it, kb_il, kb_bi, kb_bb, kb_bs, kb_bt, kb_bl, kb_ti, kb_tb, kb_ts, kb_tt, kb_tl, kb_li, kb_lb, kb_ls, kb_lt, kb_ll, kb_si, kb_sb, kb_ss, kb_st, kb_sl, kb_ni, kb_nb, kb_ns, kb_nt, kb_nl, nxt, never, brk, ctn, itS, parA, mnil, mcv, mco, setAll, tgN, tgT, tgsC, tgs0, yes, lcStep, wipeS, wipeL, backS, backL, keepS, intsD_map, boolsD_map, sortRo, revF, revD, callN, callI, ownO, putO, ixO, setIx, appE, Option.bind_some, Option.map_some, Option.bind_none, Option.map_none, List.length_cons, List.length_nil, List.length_map, List.map_cons, List.map_nil, List.cons_append, List.nil_append, List.append_nil, List.replicate_succ, List.replicate_zero, List.reduceReplicate, List.getElem?_cons_zero, List.getElem?_cons_succ, List.getElem?_nil, List.set_cons_zero, List.set_cons_succ, Nat.reduceAdd, Nat.reduceSub, Nat.reduceMul, Nat.reduceEqDiff, Nat.reduceLeDiff, Nat.reduceLT, Int.add_zero, Int.zero_add, List.map_reverse, Nat.reduceBEq, Int.reduceAdd, Int.reduceSub, Int.reduceLT, Int.reduceLE, Int.reduceEq, Int.reduceNeg, Int.reduceToNat, Int.reduceMul, Nat.zero_add, Nat.add_zero, if_true, if_false, reduceIte, decide_true, decide_false, decide_eq_true_eq, Bool.not_true, Bool.not_false, Bool.and_true, Bool.true_and, Bool.and_self, Bool.and_false, Bool.false_and, Bool.or_true, Bool.true_or, Bool.or_false, Bool.false_or, Bool.false_eq_true, Bool.true_eq_false, and_self, and_true, true_and, true_or, or_true, Bool.or_self, Bool.not_not, Function.comp_apply, ne_eq, not_true_eq_false, not_false_eq_true, allL_yes, List.filterMap_cons, List.filterMap_nil]
theorem e_times_in (r : List Int) (k : Int) (hl : r.length ≤ 16777216) : F_times_in [.tup (r.map .int), .int k] = some (.v (.int (r.count k))) := by
  have e : lcS [2] (itS (getv 0)) (tgN 2) (tst (bin2 (getv 2) (getv 1) eqD)) (getv 2) ⟨[.v (.tup (r.map .int)), .v (.int k), .no], []⟩
      = some ((r.filter fun x => decide (x = k)).map .int, ⟨[.v (.tup (r.map .int)), .v (.int k), .no], []⟩) := by
    refine lcS_flt (s1 := ⟨[.v (.tup (r.map .int)), .v (.int k), .no], []⟩) .int _ _ r (by simp only [runV, runI, entV, entI, endV, endI, seqs, ifs, retv, reto, setv, seto, asg, drop1, retn, getv, geto, cst, bor, ofO, ofV, asL, seqD, bin2, bin2o, tst, chn, andv, orv, notv, ifv, andt, ort, nott, anil, acons, astar, astarB, mkT, mkL, call1, callo, callF, callFo, callKF, perm, rtD, S.setv, S.setO, szOk, subD_e, ltD_e, leD_e, gtD_e, geD_e, modD_e, fdivD_e, powD_e, addD_i, addD_l, addD_t, mulT_i, mulT_l, mulT_t, mulOk, negF, eqD, neD, isN, notN, ixD_t, ixD_l, ixD_f, lenD_t, lenD_l, lenD_f, lenL, tupD_t, tupD_l, tupD_f, tupL, listD_t, listD_l, listD_f, listL, intD_i, intD_b, absD_e, max2D, min2D, sumL, sumD_t, sumD_l, sortedV_t, sortedV_l, sortedV_f, sortedG_ints, isi_int, isi_bl, isi_tup, isi_lst, isi_str, isi_non, kb_ii, kb_ib, kb_is, kb_it, kb_il, kb_bi, kb_bb, kb_bs, kb_bt, kb_bl, kb_ti, kb_tb, kb_ts, kb_tt, kb_tl, kb_li, kb_lb, kb_ls, kb_lt, kb_ll, kb_si, kb_sb, kb_ss, kb_st, kb_sl, kb_ni, kb_nb, kb_ns, kb_nt, kb_nl, nxt, never, brk, ctn, itS, parA, mnil, mcv, mco, setAll, tgN, tgT, tgsC, tgs0, yes, lcStep, wipeS, wipeL, backS, backL, keepS, intsD_map, boolsD_map, sortRo, revF, revD, callN, callI, ownO, putO, ixO, setIx, appE, Option.bind_some, Option.map_some, Option.bind_none, Option.map_none, List.length_cons, List.length_nil, List.length_map, List.map_cons, List.map_nil, List.cons_append, List.nil_append, List.append_nil, List.replicate_succ, List.replicate_zero, List.reduceReplicate, List.getElem?_cons_zero, List.getElem?_cons_succ, List.getElem?_nil, List.set_cons_zero, List.set_cons_succ, Nat.reduceAdd, Nat.reduceSub, Nat.reduceMul, Nat.reduceEqDiff, Nat.reduceLeDiff, Nat.reduceLT, Int.add_zero, Int.zero_add, List.map_reverse, Nat.reduceBEq, Int.reduceAdd, Int.reduceSub, Int.reduceLT, Int.reduceLE, Int.reduceEq, Int.reduceNeg, Int.reduceToNat, Int.reduceMul, Nat.zero_add, Nat.add_zero, if_true, if_false, reduceIte, decide_true, decide_false, decide_eq_true_eq, Bool.not_true, Bool.not_false, Bool.and_true, Bool.true_and, Bool.and_self, Bool.and_false, Bool.false_and, Bool.or_true, Bool.true_or, Bool.or_false, Bool.false_or, Bool.false_eq_true, Bool.true_eq_false, and_self, and_true, true_and, true_or, or_true, Bool.or_self, Bool.not_not, Function.comp_apply, ne_eq, not_true_eq_false, not_false_eq_true, allL_yes, List.filterMap_cons, List.filterMap_nil]) hl fun x hx => ?_
    by_cases hk : x = k <;> simp only [runV, runI, entV, entI, endV, endI, seqs, ifs, retv, reto, setv, seto, asg, drop1, retn, getv, geto, cst, bor, ofO, ofV, asL, seqD, bin2, bin2o, tst, chn, andv, orv, notv, ifv, andt, ort, nott, anil, acons, astar, astarB, mkT, mkL, call1, callo, callF, callFo, callKF, perm, rtD, S.setv, S.setO, szOk, subD_e, ltD_e, leD_e, gtD_e, geD_e, modD_e, fdivD_e, powD_e, addD_i, addD_l, addD_t, mulT_i, mulT_l, mulT_t, mulOk, negF, eqD, neD, isN, notN, ixD_t, ixD_l, ixD_f, lenD_t, lenD_l, lenD_f, lenL, tupD_t, tupD_l, tupD_f, tupL, listD_t, listD_l, listD_f, listL, intD_i, intD_b, absD_e, max2D, min2D, sumL, sumD_t, sumD_l, sortedV_t, sortedV_l, sortedV_f, sortedG_ints, isi_int, isi_bl, isi_tup, isi_lst, isi_str, isi_non, kb_ii, kb_ib, kb_is, kb_it, kb_il, kb_bi, kb_bb, kb_bs, kb_bt, kb_bl, kb_ti, kb_tb, kb_ts, kb_tt, kb_tl, kb_li, kb_lb, kb_ls, kb_lt, kb_ll, kb_si, kb_sb, kb_ss, kb_st, kb_sl, kb_ni, kb_nb, kb_ns, kb_nt, kb_nl, nxt, never, brk, ctn, itS, parA, mnil, mcv, mco, setAll, tgN, tgT, tgsC, tgs0, yes, lcStep, wipeS, wipeL, backS, backL, keepS, intsD_map, boolsD_map, sortRo, revF, revD, callN, callI, ownO, putO, ixO, setIx, appE, Option.bind_some, Option.map_some, Option.bind_none, Option.map_none, List.length_cons, List.length_nil, List.length_map, List.map_cons, List.map_nil, List.cons_append, List.nil_append, List.append_nil, List.replicate_succ, List.replicate_zero, List.reduceReplicate, List.getElem?_cons_zero, List.getElem?_cons_succ, List.getElem?_nil, List.set_cons_zero, List.set_cons_succ, Nat.reduceAdd, Nat.reduceSub, Nat.reduceMul, Nat.reduceEqDiff, Nat.reduceLeDiff, Nat.reduceLT, Int.add_zero, Int.zero_add, List.map_reverse, Nat.reduceBEq, Int.reduceAdd, Int.reduceSub, Int.reduceLT, Int.reduceLE, Int.reduceEq, Int.reduceNeg, Int.reduceToNat, Int.reduceMul, Nat.zero_add, Nat.add_zero, if_true, if_false, reduceIte, decide_true, decide_false, decide_eq_true_eq, Bool.not_true, Bool.not_false, Bool.and_true, Bool.true_and, Bool.and_self, Bool.and_false, Bool.false_and, Bool.or_true, Bool.true_or, Bool.or_false, Bool.false_or, Bool.false_eq_true, Bool.true_eq_false, and_self, and_true, true_and, true_or, or_true, Bool.or_self, Bool.not_not, Function.comp_apply, ne_eq, not_true_eq_false, not_false_eq_true, allL_yes, List.filterMap_cons, List.filterMap_nil, eqB_int, hk]
  have e2 : (r.filter fun x => decide (x = k)).length = r.count k := by
    rw [List.count_eq_countP, List.countP_eq_length_filter]
    congr 1
  simp only [F_times_in, g_times_in, runV, runI, entV, entI, endV, endI, seqs, ifs, retv, reto, setv, seto, asg, drop1, retn, getv, geto, cst, bor, ofO, ofV, asL, seqD, bin2, bin2o, tst, chn, andv, orv, notv, ifv, andt, ort, nott, anil, acons, astar, astarB, mkT, mkL, call1, callo, callF, callFo, callKF, perm, rtD, S.setv, S.setO, szOk, subD_e, ltD_e, leD_e, gtD_e, geD_e, modD_e, fdivD_e, powD_e, addD_i, addD_l, addD_t, mulT_i, mulT_l, mulT_t, mulOk, negF, eqD, neD, isN, notN, ixD_t, ixD_l, ixD_f, lenD_t, lenD_l, lenD_f, lenL, tupD_t, tupD_l, tupD_f, tupL, listD_t, listD_l, listD_f, listL, intD_i, intD_b, absD_e, max2D, min2D, sumL, sumD_t, sumD_l, sortedV_t, sortedV_l, sortedV_f, sortedG_ints, isi_int, isi_bl, isi_tup, isi_lst, isi_str, isi_non, kb_ii, kb_ib, kb_is, kb_it, kb_il, kb_bi, kb_bb, kb_bs, kb_bt, kb_bl, kb_ti, kb_tb, kb_ts, kb_tt, kb_tl, kb_li, kb_lb, kb_ls, kb_lt, kb_ll, kb_si, kb_sb, kb_ss, kb_st, kb_sl, kb_ni, kb_nb, kb_ns, kb_nt, kb_nl, nxt, never, brk, ctn, itS, parA, mnil, mcv, mco, setAll, tgN, tgT, tgsC, tgs0, yes, lcStep, wipeS, wipeL, backS, backL, keepS, intsD_map, boolsD_map, sortRo, revF, revD, callN, callI, ownO, putO, ixO, setIx, appE, Option.bind_some, Option.map_some, Option.bind_none, Option.map_none, List.length_cons, List.length_nil, List.length_map, List.map_cons, List.map_nil, List.cons_append, List.nil_append, List.append_nil, List.replicate_succ, List.replicate_zero, List.reduceReplicate, List.getElem?_cons_zero, List.getElem?_cons_succ, List.getElem?_nil, List.set_cons_zero, List.set_cons_succ, Nat.reduceAdd, Nat.reduceSub, Nat.reduceMul, Nat.reduceEqDiff, Nat.reduceLeDiff, Nat.reduceLT, Int.add_zero, Int.zero_add, List.map_reverse, Nat.reduceBEq, Int.reduceAdd, Int.reduceSub, Int.reduceLT, Int.reduceLE, Int.reduceEq, Int.reduceNeg, Int.reduceToNat, Int.reduceMul, Nat.zero_add, Nat.add_zero, if_true, if_false, reduceIte, decide_true, decide_false, decide_eq_true_eq, Bool.not_true, Bool.not_false, Bool.and_true, Bool.true_and, Bool.and_self, Bool.and_false, Bool.false_and, Bool.or_true, Bool.true_or, Bool.or_false, Bool.false_or, Bool.false_eq_true, Bool.true_eq_false, and_self, and_true, true_and, true_or, or_true, Bool.or_self, Bool.not_not, Function.comp_apply, ne_eq, not_true_eq_false, not_false_eq_true, allL_yes, List.filterMap_cons, List.filterMap_nil, e, e2]
theorem e_sizes_of (r : List Int) (h : ∀ x ∈ r, 1 ≤ x) (hs : r.sum ≤ 1900) : F_sizes_of [.tup (r.map .int)] = some (.v (.lst ((sortU r).reverse.map .int))) := by
  have h1 := sortU_len h hs
  have h2 := sum_pos h
  have h3 : r.length < 4000 := by omega
  simp only [F_sizes_of, g_sizes_of, runV, runI, entV, entI, endV, endI, seqs, ifs, retv, reto, setv, seto, asg, drop1, retn, getv, geto, cst, bor, ofO, ofV, asL, seqD, bin2, bin2o, tst, chn, andv, orv, notv, ifv, andt, ort, nott, anil, acons, astar, astarB, mkT, mkL, call1, callo, callF, callFo, callKF, perm, rtD, S.setv, S.setO, szOk, subD_e, ltD_e, leD_e, gtD_e, geD_e, modD_e, fdivD_e, powD_e, addD_i, addD_l, addD_t, mulT_i, mulT_l, mulT_t, mulOk, negF, eqD, neD, isN, notN, ixD_t, ixD_l, ixD_f, lenD_t, lenD_l, lenD_f, lenL, tupD_t, tupD_l, tupD_f, tupL, listD_t, listD_l, listD_f, listL, intD_i, intD_b, absD_e, max2D, min2D, sumL, sumD_t, sumD_l, sortedV_t, sortedV_l, sortedV_f, sortedG_ints, isi_int, isi_bl, isi_tup, isi_lst, isi_str, isi_non, kb_ii, kb_ib, kb_is, kb_it, kb_il, kb_bi, kb_bb, kb_bs, kb_bt, kb_bl, kb_ti, kb_tb, kb_ts, kb_tt, kb_tl, kb_li, kb_lb, kb_ls, kb_lt, kb_ll, kb_si, kb_sb, kb_ss, kb_st, kb_sl, kb_ni, kb_nb, kb_ns, kb_nt, kb_nl, nxt, never, brk, ctn, itS, parA, mnil, mcv, mco, setAll, tgN, tgT, tgsC, tgs0, yes, lcStep, wipeS, wipeL, backS, backL, keepS, intsD_map, boolsD_map, sortRo, revF, revD, callN, callI, ownO, putO, ixO, setIx, appE, Option.bind_some, Option.map_some, Option.bind_none, Option.map_none, List.length_cons, List.length_nil, List.length_map, List.map_cons, List.map_nil, List.cons_append, List.nil_append, List.append_nil, List.replicate_succ, List.replicate_zero, List.reduceReplicate, List.getElem?_cons_zero, List.getElem?_cons_succ, List.getElem?_nil, List.set_cons_zero, List.set_cons_succ, Nat.reduceAdd, Nat.reduceSub, Nat.reduceMul, Nat.reduceEqDiff, Nat.reduceLeDiff, Nat.reduceLT, Int.add_zero, Int.zero_add, List.map_reverse, Nat.reduceBEq, Int.reduceAdd, Int.reduceSub, Int.reduceLT, Int.reduceLE, Int.reduceEq, Int.reduceNeg, Int.reduceToNat, Int.reduceMul, Nat.zero_add, Nat.add_zero, if_true, if_false, reduceIte, decide_true, decide_false, decide_eq_true_eq, Bool.not_true, Bool.not_false, Bool.and_true, Bool.true_and, Bool.and_self, Bool.and_false, Bool.false_and, Bool.or_true, Bool.true_or, Bool.or_false, Bool.false_or, Bool.false_eq_true, Bool.true_eq_false, and_self, and_true, true_and, true_or, or_true, Bool.or_self, Bool.not_not, Function.comp_apply, ne_eq, not_true_eq_false, not_false_eq_true, allL_yes, List.filterMap_cons, List.filterMap_nil, sortSet, h1, h3]
def turnB : S → Option Fl := (seqs (setv 3 (ifv (tst (bin2 (getv 2) (call1 (acons (getv 0) anil) lenD) ltD)) (bin2 (getv 0) (getv 2) ixD) (cst (.int 0))))
      (setv 1 (bin2 (getv 1) (bin2 (ofO (mkL (acons (getv 2) anil))) (bin2 (bin2 (getv 0) (bin2 (getv 2) (cst (.int 1)) subD) ixD) (getv 3) subD) mulT) addD)))
theorem turn_step1 (r acc : List Int) (X y z : Int) (a b : Sl) (a1 : atI (r.map D.int) (X - 1) = some (.int y)) (hc : X < (r.length : Int)) (a2 : atI (r.map D.int) X = some (.int z)) (z1 : (y - z).natAbs < 2 ^ 63) (z2 : 1 * (y - z).toNat ≤ 16777216) (z3 : acc.length + (y - z).toNat ≤ 16777216) :
    (tgN 2 (.int X) ⟨[.v (.tup (r.map .int)), .v (.lst (acc.map .int)), a, b], []⟩).bind turnB = some (.nx ⟨[.v (.tup (r.map .int)), .v (.lst ((acc ++ List.replicate (y - z).toNat X).map .int)), .v (.int X), .v (.int z)], []⟩) := by
  simp only [turnB, runV, runI, entV, entI, endV, endI, seqs, ifs, retv, reto, setv, seto, asg, drop1, retn, getv, geto, cst, bor, ofO, ofV, asL, seqD, bin2, bin2o, tst, chn, andv, orv, notv, ifv, andt, ort, nott, anil, acons, astar, astarB, mkT, mkL, call1, callo, callF, callFo, callKF, perm, rtD, S.setv, S.setO, szOk, subD_e, ltD_e, leD_e, gtD_e, geD_e, modD_e, fdivD_e, powD_e, addD_i, addD_l, addD_t, mulT_i, mulT_l, mulT_t, mulOk, negF, eqD, neD, isN, notN, ixD_t, ixD_l, ixD_f, lenD_t, lenD_l, lenD_f, lenL, tupD_t, tupD_l, tupD_f, tupL, listD_t, listD_l, listD_f, listL, intD_i, intD_b, absD_e, max2D, min2D, sumL, sumD_t, sumD_l, sortedV_t, sortedV_l, sortedV_f, sortedG_ints, isi_int, isi_bl, isi_tup, isi_lst, isi_str, isi_non, kb_ii, kb_ib, kb_is, kb_it, kb_il, kb_bi, kb_bb, kb_bs, kb_bt, kb_bl, kb_ti, kb_tb, kb_ts, kb_tt, kb_tl, kb_li, kb_lb, kb_ls, kb_lt, kb_ll, kb_si, kb_sb, kb_ss, kb_st, kb_sl, kb_ni, kb_nb, kb_ns, kb_nt, kb_nl, nxt, never, brk, ctn, itS, parA, mnil, mcv, mco, setAll, tgN, tgT, tgsC, tgs0, yes, lcStep, wipeS, wipeL, backS, backL, keepS, intsD_map, boolsD_map, sortRo, revF, revD, callN, callI, ownO, putO, ixO, setIx, appE, Option.bind_some, Option.map_some, Option.bind_none, Option.map_none, List.length_cons, List.length_nil, List.length_map, List.map_cons, List.map_nil, List.cons_append, List.nil_append, List.append_nil, List.replicate_succ, List.replicate_zero, List.reduceReplicate, List.getElem?_cons_zero, List.getElem?_cons_succ, List.getElem?_nil, List.set_cons_zero, List.set_cons_succ, Nat.reduceAdd, Nat.reduceSub, Nat.reduceMul, Nat.reduceEqDiff, Nat.reduceLeDiff, Nat.reduceLT, Int.add_zero, Int.zero_add, List.map_reverse, Nat.reduceBEq, Int.reduceAdd, Int.reduceSub, Int.reduceLT, Int.reduceLE, Int.reduceEq, Int.reduceNeg, Int.reduceToNat, Int.reduceMul, Nat.zero_add, Nat.add_zero, if_true, if_false, reduceIte, decide_true, decide_false, decide_eq_true_eq, Bool.not_true, Bool.not_false, Bool.and_true, Bool.true_and, Bool.and_self, Bool.and_false, Bool.false_and, Bool.or_true, Bool.true_or, Bool.or_false, Bool.false_or, Bool.false_eq_true, Bool.true_eq_false, and_self, and_true, true_and, true_or, or_true, Bool.or_self, Bool.not_not, Function.comp_apply, ne_eq, not_true_eq_false, not_false_eq_true, allL_yes, List.filterMap_cons, List.filterMap_nil, a1, a2, hc, z1, z2, z3, List.length_map, List.map_replicate, List.length_replicate, List.flatten_replicate_singleton, List.map_append]
theorem turn_step2 (r acc : List Int) (X y : Int) (a b : Sl) (a1 : atI (r.map D.int) (X - 1) = some (.int y)) (hc : ¬ X < (r.length : Int)) (z1 : (y - 0).natAbs < 2 ^ 63) (z2 : 1 * (y - 0).toNat ≤ 16777216) (z3 : acc.length + (y - 0).toNat ≤ 16777216) :
    (tgN 2 (.int X) ⟨[.v (.tup (r.map .int)), .v (.lst (acc.map .int)), a, b], []⟩).bind turnB = some (.nx ⟨[.v (.tup (r.map .int)), .v (.lst ((acc ++ List.replicate (y - 0).toNat X).map .int)), .v (.int X), .v (.int 0)], []⟩) := by
  simp only [turnB, runV, runI, entV, entI, endV, endI, seqs, ifs, retv, reto, setv, seto, asg, drop1, retn, getv, geto, cst, bor, ofO, ofV, asL, seqD, bin2, bin2o, tst, chn, andv, orv, notv, ifv, andt, ort, nott, anil, acons, astar, astarB, mkT, mkL, call1, callo, callF, callFo, callKF, perm, rtD, S.setv, S.setO, szOk, subD_e, ltD_e, leD_e, gtD_e, geD_e, modD_e, fdivD_e, powD_e, addD_i, addD_l, addD_t, mulT_i, mulT_l, mulT_t, mulOk, negF, eqD, neD, isN, notN, ixD_t, ixD_l, ixD_f, lenD_t, lenD_l, lenD_f, lenL, tupD_t, tupD_l, tupD_f, tupL, listD_t, listD_l, listD_f, listL, intD_i, intD_b, absD_e, max2D, min2D, sumL, sumD_t, sumD_l, sortedV_t, sortedV_l, sortedV_f, sortedG_ints, isi_int, isi_bl, isi_tup, isi_lst, isi_str, isi_non, kb_ii, kb_ib, kb_is, kb_it, kb_il, kb_bi, kb_bb, kb_bs, kb_bt, kb_bl, kb_ti, kb_tb, kb_ts, kb_tt, kb_tl, kb_li, kb_lb, kb_ls, kb_lt, kb_ll, kb_si, kb_sb, kb_ss, kb_st, kb_sl, kb_ni, kb_nb, kb_ns, kb_nt, kb_nl, nxt, never, brk, ctn, itS, parA, mnil, mcv, mco, setAll, tgN, tgT, tgsC, tgs0, yes, lcStep, wipeS, wipeL, backS, backL, keepS, intsD_map, boolsD_map, sortRo, revF, revD, callN, callI, ownO, putO, ixO, setIx, appE, Option.bind_some, Option.map_some, Option.bind_none, Option.map_none, List.length_cons, List.length_nil, List.length_map, List.map_cons, List.map_nil, List.cons_append, List.nil_append, List.append_nil, List.replicate_succ, List.replicate_zero, List.reduceReplicate, List.getElem?_cons_zero, List.getElem?_cons_succ, List.getElem?_nil, List.set_cons_zero, List.set_cons_succ, Nat.reduceAdd, Nat.reduceSub, Nat.reduceMul, Nat.reduceEqDiff, Nat.reduceLeDiff, Nat.reduceLT, Int.add_zero, Int.zero_add, List.map_reverse, Nat.reduceBEq, Int.reduceAdd, Int.reduceSub, Int.reduceLT, Int.reduceLE, Int.reduceEq, Int.reduceNeg, Int.reduceToNat, Int.reduceMul, Nat.zero_add, Nat.add_zero, if_true, if_false, reduceIte, decide_true, decide_false, decide_eq_true_eq, Bool.not_true, Bool.not_false, Bool.and_true, Bool.true_and, Bool.and_self, Bool.and_false, Bool.false_and, Bool.or_true, Bool.true_or, Bool.or_false, Bool.false_or, Bool.false_eq_true, Bool.true_eq_false, and_self, and_true, true_and, true_or, or_true, Bool.or_self, Bool.not_not, Function.comp_apply, ne_eq, not_true_eq_false, not_false_eq_true, allL_yes, List.filterMap_cons, List.filterMap_nil, a1, hc, z1, z2, z3, List.length_map, List.map_replicate, List.length_replicate, List.flatten_replicate_singleton, List.map_append]
theorem getD_ok {r : List Int} (h : Ok r) (i : Nat) : 0 ≤ r.getD i 0 ∧ r.getD i 0 ≤ 600 := by
  by_cases hc : i < r.length
  · have hm : r.getD i 0 ∈ r := by rw [List.getD_eq_getElem?_getD, List.getElem?_eq_getElem hc]; exact List.getElem_mem hc
    have := h.1.2 _ hm; have := h.le _ hm; omega
  · rw [List.getD_eq_getElem?_getD, List.getElem?_eq_none (by omega)]; simp
def turnSt (r : List Int) (rest acc : List Int) (s : S) : Prop := (acc.length : Int) + 600 * rest.length ≤ 360000 ∧ ∃ a b, s = ⟨[.v (.tup (r.map .int)), .v (.lst (acc.map .int)), a, b], []⟩
def turnG (r : List Int) (acc : List Int) (at_ : Int) : List Int := acc ++ List.replicate (r.getD (at_ - 1).toNat 0 - r.getD at_.toNat 0).toNat at_
theorem turn_step (r : List Int) (h : Ok r) (i : Nat) (hi : i < r.length) (rest acc : List Int) (s : S) (hs : turnSt r (((i + 1 : Nat) : Int) :: rest) acc s) :
    ∃ s', ((tgN 2 (.int ((i + 1 : Nat) : Int)) s).bind turnB = some (.nx s') ∨ (tgN 2 (.int ((i + 1 : Nat) : Int)) s).bind turnB = some (.ct s')) ∧ turnSt r rest (turnG r acc ((i + 1 : Nat) : Int)) s' := by
  obtain ⟨h1, a, b, rfl⟩ := hs
  have a1 := atI_ints r (((i + 1 : Nat) : Int) - 1) (by omega) (by omega)
  have e3 : (((i + 1 : Nat) : Int) - 1).toNat = i := by omega
  have e4 : (((i + 1 : Nat) : Int)).toNat = i + 1 := by omega
  unfold turnG
  rw [e3] at a1 ⊢
  rw [e4]
  have b1 := getD_ok h i
  have b2 := getD_ok h (i + 1)
  simp only [List.length_cons] at h1
  by_cases hc : i + 1 < r.length
  · have a2 := atI_ints r ((i + 1 : Nat) : Int) (by omega) (by omega)
    rw [e4] at a2
    exact ⟨_, .inl (turn_step1 r acc _ _ _ a b a1 (by omega) a2 (by omega) (by omega) (by omega)), by simp only [List.length_append, List.length_replicate]; omega, _, _, rfl⟩
  · have e5 : r.getD (i + 1) 0 = 0 := by rw [List.getD_eq_getElem?_getD, List.getElem?_eq_none (by omega)]; rfl
    rw [e5]
    exact ⟨_, .inl (turn_step2 r acc _ _ a b a1 (by omega) (by omega) (by omega) (by omega)), by simp only [List.length_append, List.length_replicate]; omega, _, _, rfl⟩
def downs (n : Nat) : List Int := (List.range n).reverse.map fun i => ((i + 1 : Nat) : Int)
theorem turn_fold (r : List Int) : (downs r.length).foldl (turnG r) [] = turn r := by
  have := foldl_app (fun at_ : Int => List.replicate (r.getD (at_ - 1).toNat 0 - r.getD at_.toNat 0).toNat at_) (downs r.length) []
  rw [show turnG r = fun acc at_ => acc ++ List.replicate (r.getD (at_ - 1).toNat 0 - r.getD at_.toNat 0).toNat at_ from rfl, this, List.nil_append, downs, List.flatMap_map, turn, turnF_flat]
  congr 1
  funext i
  have e5 : (((i + 1 : Nat) : Int) - 1).toNat = i := by omega
  have e6 : (((i + 1 : Nat) : Int)).toNat = i + 1 := by omega
  rw [e5, e6, Nat.zero_add]
theorem turn_it (r : List Int) (h : Ok r) (s : S) (hs : s = ⟨[.v (.tup (r.map .int)), .v (.lst []), .no, .no], []⟩) : itRd (acons (call1 (acons (getv 0) anil) lenD) (acons (cst (.int 0)) (acons (negF (cst (.int 1))) anil))) s = some ((downs r.length).map .int, s) := by
  have hl := h.len
  rw [downs, ← down_range, ← rngC_ints]
  subst hs
  have e := itRd_e (s' := ⟨[.v (.tup (r.map .int)), .v (.lst []), .no, .no], []⟩) (f := acons (call1 (acons (getv 0) anil) lenD) (acons (cst (.int 0)) (acons (negF (cst (.int 1))) anil))) (s := ⟨[.v (.tup (r.map .int)), .v (.lst []), .no, .no], []⟩) (i := r.length) (j := 0) (by simp only [runV, runI, entV, entI, endV, endI, seqs, ifs, retv, reto, setv, seto, asg, drop1, retn, getv, geto, cst, bor, ofO, ofV, asL, seqD, bin2, bin2o, tst, chn, andv, orv, notv, ifv, andt, ort, nott, anil, acons, astar, astarB, mkT, mkL, call1, callo, callF, callFo, callKF, perm, rtD, S.setv, S.setO, szOk, subD_e, ltD_e, leD_e, gtD_e, geD_e, modD_e, fdivD_e, powD_e, addD_i, addD_l, addD_t, mulT_i, mulT_l, mulT_t, mulOk, negF, eqD, neD, isN, notN, ixD_t, ixD_l, ixD_f, lenD_t, lenD_l, lenD_f, lenL, tupD_t, tupD_l, tupD_f, tupL, listD_t, listD_l, listD_f, listL, intD_i, intD_b, absD_e, max2D, min2D, sumL, sumD_t, sumD_l, sortedV_t, sortedV_l, sortedV_f, sortedG_ints, isi_int, isi_bl, isi_tup, isi_lst, isi_str, isi_non, kb_ii, kb_ib, kb_is, kb_it, kb_il, kb_bi, kb_bb, kb_bs, kb_bt, kb_bl, kb_ti, kb_tb, kb_ts, kb_tt, kb_tl, kb_li, kb_lb, kb_ls, kb_lt, kb_ll, kb_si, kb_sb, kb_ss, kb_st, kb_sl, kb_ni, kb_nb, kb_ns, kb_nt, kb_nl, nxt, never, brk, ctn, itS, parA, mnil, mcv, mco, setAll, tgN, tgT, tgsC, tgs0, yes, lcStep, wipeS, wipeL, backS, backL, keepS, intsD_map, boolsD_map, sortRo, revF, revD, callN, callI, ownO, putO, ixO, setIx, appE, Option.bind_some, Option.map_some, Option.bind_none, Option.map_none, List.length_cons, List.length_nil, List.length_map, List.map_cons, List.map_nil, List.cons_append, List.nil_append, List.append_nil, List.replicate_succ, List.replicate_zero, List.reduceReplicate, List.getElem?_cons_zero, List.getElem?_cons_succ, List.getElem?_nil, List.set_cons_zero, List.set_cons_succ, Nat.reduceAdd, Nat.reduceSub, Nat.reduceMul, Nat.reduceEqDiff, Nat.reduceLeDiff, Nat.reduceLT, Int.add_zero, Int.zero_add, List.map_reverse, Nat.reduceBEq, Int.reduceAdd, Int.reduceSub, Int.reduceLT, Int.reduceLE, Int.reduceEq, Int.reduceNeg, Int.reduceToNat, Int.reduceMul, Nat.zero_add, Nat.add_zero, if_true, if_false, reduceIte, decide_true, decide_false, decide_eq_true_eq, Bool.not_true, Bool.not_false, Bool.and_true, Bool.true_and, Bool.and_self, Bool.and_false, Bool.false_and, Bool.or_true, Bool.true_or, Bool.or_false, Bool.false_or, Bool.false_eq_true, Bool.true_eq_false, and_self, and_true, true_and, true_or, or_true, Bool.or_self, Bool.not_not, Function.comp_apply, ne_eq, not_true_eq_false, not_false_eq_true, allL_yes, List.filterMap_cons, List.filterMap_nil]) (r62_s _ (by omega) (by omega)) (r62_s _ (by omega) (by omega))
  rw [Int.sub_zero, Int.toNat_natCast] at e
  exact e
theorem e_turned_row (r : List Int) (h : Ok r) : F_turned_row [.tup (r.map .int)] = some (.v (.tup ((turn r).map .int))) := by
  have hl := h.len
  obtain ⟨s', e1, -, a, b, e2⟩ := forF_rest (t := tgN 2) (b := turnB) D.int (turnSt r) (turnG r) (downs r.length) [] ⟨[.v (.tup (r.map .int)), .v (.lst []), .no, .no], []⟩ (fun x rest acc s hx hs => by
      obtain ⟨i, hi, rfl⟩ := List.mem_map.mp hx
      exact turn_step r h i (List.mem_range.mp (List.mem_reverse.mp hi)) rest acc s hs)
    ⟨by simp [downs]; omega, _, _, rfl⟩
  subst e2
  rw [turn_fold] at e1
  have e5 := turn_it r h _ rfl
  unfold turnB at e1
  have e6 := fors_e (fi := itRd (acons (call1 (acons (getv 0) anil) lenD) (acons (cst (.int 0)) (acons (negF (cst (.int 1))) anil)))) e5 e1
  have e7 : setv 1 (ofO (mkL anil)) ⟨[.v (.tup (r.map .int)), .no, .no, .no], []⟩ = some (.nx ⟨[.v (.tup (r.map .int)), .v (.lst []), .no, .no], []⟩) := by simp only [runV, runI, entV, entI, endV, endI, seqs, ifs, retv, reto, setv, seto, asg, drop1, retn, getv, geto, cst, bor, ofO, ofV, asL, seqD, bin2, bin2o, tst, chn, andv, orv, notv, ifv, andt, ort, nott, anil, acons, astar, astarB, mkT, mkL, call1, callo, callF, callFo, callKF, perm, rtD, S.setv, S.setO, szOk, subD_e, ltD_e, leD_e, gtD_e, geD_e, modD_e, fdivD_e, powD_e, addD_i, addD_l, addD_t, mulT_i, mulT_l, mulT_t, mulOk, negF, eqD, neD, isN, notN, ixD_t, ixD_l, ixD_f, lenD_t, lenD_l, lenD_f, lenL, tupD_t, tupD_l, tupD_f, tupL, listD_t, listD_l, listD_f, listL, intD_i, intD_b, absD_e, max2D, min2D, sumL, sumD_t, sumD_l, sortedV_t, sortedV_l, sortedV_f, sortedG_ints, isi_int, isi_bl, isi_tup, isi_lst, isi_str, isi_non, kb_ii, kb_ib, kb_is, kb_it, kb_il, kb_bi, kb_bb, kb_bs, kb_bt, kb_bl, kb_ti, kb_tb, kb_ts, kb_tt, kb_tl, kb_li, kb_lb, kb_ls, kb_lt, kb_ll, kb_si, kb_sb, kb_ss, kb_st, kb_sl, kb_ni, kb_nb, kb_ns, kb_nt, kb_nl, nxt, never, brk, ctn, itS, parA, mnil, mcv, mco, setAll, tgN, tgT, tgsC, tgs0, yes, lcStep, wipeS, wipeL, backS, backL, keepS, intsD_map, boolsD_map, sortRo, revF, revD, callN, callI, ownO, putO, ixO, setIx, appE, Option.bind_some, Option.map_some, Option.bind_none, Option.map_none, List.length_cons, List.length_nil, List.length_map, List.map_cons, List.map_nil, List.cons_append, List.nil_append, List.append_nil, List.replicate_succ, List.replicate_zero, List.reduceReplicate, List.getElem?_cons_zero, List.getElem?_cons_succ, List.getElem?_nil, List.set_cons_zero, List.set_cons_succ, Nat.reduceAdd, Nat.reduceSub, Nat.reduceMul, Nat.reduceEqDiff, Nat.reduceLeDiff, Nat.reduceLT, Int.add_zero, Int.zero_add, List.map_reverse, Nat.reduceBEq, Int.reduceAdd, Int.reduceSub, Int.reduceLT, Int.reduceLE, Int.reduceEq, Int.reduceNeg, Int.reduceToNat, Int.reduceMul, Nat.zero_add, Nat.add_zero, if_true, if_false, reduceIte, decide_true, decide_false, decide_eq_true_eq, Bool.not_true, Bool.not_false, Bool.and_true, Bool.true_and, Bool.and_self, Bool.and_false, Bool.false_and, Bool.or_true, Bool.true_or, Bool.or_false, Bool.false_or, Bool.false_eq_true, Bool.true_eq_false, and_self, and_true, true_and, true_or, or_true, Bool.or_self, Bool.not_not, Function.comp_apply, ne_eq, not_true_eq_false, not_false_eq_true, allL_yes, List.filterMap_cons, List.filterMap_nil]
  refine runV_e ⟨[.v (.tup (r.map .int)), .no, .no, .no], []⟩ rfl rfl (o := some (.rt (.tup ((turn r).map .int)) ⟨[.v (.tup (r.map .int)), .v (.lst ((turn r).map .int)), a, b], []⟩)) ?_ rfl
  unfold g_turned_row
  rw [seqs_nx e7, seqs_nx e6]
  simp only [runV, runI, entV, entI, endV, endI, seqs, ifs, retv, reto, setv, seto, asg, drop1, retn, getv, geto, cst, bor, ofO, ofV, asL, seqD, bin2, bin2o, tst, chn, andv, orv, notv, ifv, andt, ort, nott, anil, acons, astar, astarB, mkT, mkL, call1, callo, callF, callFo, callKF, perm, rtD, S.setv, S.setO, szOk, subD_e, ltD_e, leD_e, gtD_e, geD_e, modD_e, fdivD_e, powD_e, addD_i, addD_l, addD_t, mulT_i, mulT_l, mulT_t, mulOk, negF, eqD, neD, isN, notN, ixD_t, ixD_l, ixD_f, lenD_t, lenD_l, lenD_f, lenL, tupD_t, tupD_l, tupD_f, tupL, listD_t, listD_l, listD_f, listL, intD_i, intD_b, absD_e, max2D, min2D, sumL, sumD_t, sumD_l, sortedV_t, sortedV_l, sortedV_f, sortedG_ints, isi_int, isi_bl, isi_tup, isi_lst, isi_str, isi_non, kb_ii, kb_ib, kb_is, kb_it, kb_il, kb_bi, kb_bb, kb_bs, kb_bt, kb_bl, kb_ti, kb_tb, kb_ts, kb_tt, kb_tl, kb_li, kb_lb, kb_ls, kb_lt, kb_ll, kb_si, kb_sb, kb_ss, kb_st, kb_sl, kb_ni, kb_nb, kb_ns, kb_nt, kb_nl, nxt, never, brk, ctn, itS, parA, mnil, mcv, mco, setAll, tgN, tgT, tgsC, tgs0, yes, lcStep, wipeS, wipeL, backS, backL, keepS, intsD_map, boolsD_map, sortRo, revF, revD, callN, callI, ownO, putO, ixO, setIx, appE, Option.bind_some, Option.map_some, Option.bind_none, Option.map_none, List.length_cons, List.length_nil, List.length_map, List.map_cons, List.map_nil, List.cons_append, List.nil_append, List.append_nil, List.replicate_succ, List.replicate_zero, List.reduceReplicate, List.getElem?_cons_zero, List.getElem?_cons_succ, List.getElem?_nil, List.set_cons_zero, List.set_cons_succ, Nat.reduceAdd, Nat.reduceSub, Nat.reduceMul, Nat.reduceEqDiff, Nat.reduceLeDiff, Nat.reduceLT, Int.add_zero, Int.zero_add, List.map_reverse, Nat.reduceBEq, Int.reduceAdd, Int.reduceSub, Int.reduceLT, Int.reduceLE, Int.reduceEq, Int.reduceNeg, Int.reduceToNat, Int.reduceMul, Nat.zero_add, Nat.add_zero, if_true, if_false, reduceIte, decide_true, decide_false, decide_eq_true_eq, Bool.not_true, Bool.not_false, Bool.and_true, Bool.true_and, Bool.and_self, Bool.and_false, Bool.false_and, Bool.or_true, Bool.true_or, Bool.or_false, Bool.false_or, Bool.false_eq_true, Bool.true_eq_false, and_self, and_true, true_and, true_or, or_true, Bool.or_self, Bool.not_not, Function.comp_apply, ne_eq, not_true_eq_false, not_false_eq_true, allL_yes, List.filterMap_cons, List.filterMap_nil]
end K65
namespace K65
open PySem L2 DL DLT PyProof.Rows
theorem Ok.turn {r : List Int} (h : Ok r) : Ok (turn r) := ⟨turn_row, by rw [turn_sum h.1]; exact h.2⟩
theorem e_turned (r : List Int) (h : Ok r) : F_turned [.tup (r.map .int)] = some (.v (.tup ((turn r).map .int))) := by
  simp only [F_turned, g_turned, runV, runI, entV, entI, endV, endI, seqs, ifs, retv, reto, setv, seto, asg, drop1, retn, getv, geto, cst, bor, ofO, ofV, asL, seqD, bin2, bin2o, tst, chn, andv, orv, notv, ifv, andt, ort, nott, anil, acons, astar, astarB, mkT, mkL, call1, callo, callF, callFo, callKF, perm, rtD, S.setv, S.setO, szOk, subD_e, ltD_e, leD_e, gtD_e, geD_e, modD_e, fdivD_e, powD_e, addD_i, addD_l, addD_t, mulT_i, mulT_l, mulT_t, mulOk, negF, eqD, neD, isN, notN, ixD_t, ixD_l, ixD_f, lenD_t, lenD_l, lenD_f, lenL, tupD_t, tupD_l, tupD_f, tupL, listD_t, listD_l, listD_f, listL, intD_i, intD_b, absD_e, max2D, min2D, sumL, sumD_t, sumD_l, sortedV_t, sortedV_l, sortedV_f, sortedG_ints, isi_int, isi_bl, isi_tup, isi_lst, isi_str, isi_non, kb_ii, kb_ib, kb_is, kb_it, kb_il, kb_bi, kb_bb, kb_bs, kb_bt, kb_bl, kb_ti, kb_tb, kb_ts, kb_tt, kb_tl, kb_li, kb_lb, kb_ls, kb_lt, kb_ll, kb_si, kb_sb, kb_ss, kb_st, kb_sl, kb_ni, kb_nb, kb_ns, kb_nt, kb_nl, nxt, never, brk, ctn, itS, parA, mnil, mcv, mco, setAll, tgN, tgT, tgsC, tgs0, yes, lcStep, wipeS, wipeL, backS, backL, keepS, intsD_map, boolsD_map, sortRo, revF, revD, callN, callI, ownO, putO, ixO, setIx, appE, Option.bind_some, Option.map_some, Option.bind_none, Option.map_none, List.length_cons, List.length_nil, List.length_map, List.map_cons, List.map_nil, List.cons_append, List.nil_append, List.append_nil, List.replicate_succ, List.replicate_zero, List.reduceReplicate, List.getElem?_cons_zero, List.getElem?_cons_succ, List.getElem?_nil, List.set_cons_zero, List.set_cons_succ, Nat.reduceAdd, Nat.reduceSub, Nat.reduceMul, Nat.reduceEqDiff, Nat.reduceLeDiff, Nat.reduceLT, Int.add_zero, Int.zero_add, List.map_reverse, Nat.reduceBEq, Int.reduceAdd, Int.reduceSub, Int.reduceLT, Int.reduceLE, Int.reduceEq, Int.reduceNeg, Int.reduceToNat, Int.reduceMul, Nat.zero_add, Nat.add_zero, if_true, if_false, reduceIte, decide_true, decide_false, decide_eq_true_eq, Bool.not_true, Bool.not_false, Bool.and_true, Bool.true_and, Bool.and_self, Bool.and_false, Bool.false_and, Bool.or_true, Bool.true_or, Bool.or_false, Bool.false_or, Bool.false_eq_true, Bool.true_eq_false, and_self, and_true, true_and, true_or, or_true, Bool.or_self, Bool.not_not, Function.comp_apply, ne_eq, not_true_eq_false, not_false_eq_true, allL_yes, List.filterMap_cons, List.filterMap_nil, e_check_row r h, e_turned_row r h]
/-! rows less rows -/
def taken (r o : List Int) : List Int := (sortU r).reverse.flatMap fun k => List.replicate ((r.count k : Int) - o.count k).toNat k
theorem count_flat (f : Int → Nat) (x : Int) : ∀ L : List Int, L.Nodup → (L.flatMap fun k => List.replicate (f k) k).count x = if x ∈ L then f x else 0
  | [], _ => by simp
  | k :: L, h => by
    have ⟨h1, h2⟩ := List.nodup_cons.mp h
    rw [List.flatMap_cons, List.count_append, count_flat f x L h2, List.count_replicate]
    by_cases e : k = x
    · subst e; simp [h1]
    · have e' : ¬ x = k := fun z => e z.symm
      simp [e, e']
theorem count_taken (r o : List Int) (x : Int) : (taken r o).count x = r.count x - o.count x := by
  unfold taken
  rw [count_flat (fun k => ((r.count k : Int) - o.count k).toNat) x _ (List.pairwise_reverse.mpr ((sortU_nodup r).imp fun h e => h e.symm))]
  by_cases h : x ∈ r
  · have : x ∈ (sortU r).reverse := List.mem_reverse.mpr (mem_sortU.mpr h)
    simp only [this, if_true]
    omega
  · have : ¬ x ∈ (sortU r).reverse := fun z => h (mem_sortU.mp (List.mem_reverse.mp z))
    simp only [this, if_false]
    rw [List.count_eq_zero_of_not_mem h]
    omega
theorem taken_perm {r : List Int} {k : Int} (h : k ∈ r) : (taken r [k]).Perm (r.erase k) := List.perm_iff_count.mpr fun x => by
  rw [count_taken, List.count_erase, List.count_cons, List.count_nil]
  simp
def takeB : S → Option Fl := (setv 2 (bin2 (getv 2) (bin2 (ofO (mkL (acons (getv 3) anil))) (bin2 (callF F_times_in (acons (getv 0) (acons (getv 3) anil))) (callF F_times_in (acons (getv 1) (acons (getv 3) anil))) subD) mulT) addD))
theorem e_taken_out (r o : List Int) (h : Ok r) (ho : o.length ≤ 600) : F_taken_out [.tup (r.map .int), .tup (o.map .int)] = some (.v (.tup ((taken r o).map .int))) := by
  have hl := h.len
  have hs := h.2
  have hu := sortU_len h.1.2 (by omega)
  obtain ⟨s', e1, -, a, e2⟩ := forF_rest (t := tgN 3) (b := takeB) D.int
    (fun rest (acc : List Int) s => acc.length + 600 * rest.length ≤ 60000 ∧ ∃ a, s = (⟨[.v (.tup (r.map .int)), .v (.tup (o.map .int)), .v (.lst (acc.map .int)), a], []⟩ : S))
    (fun acc k => acc ++ List.replicate ((r.count k : Int) - o.count k).toNat k) (sortU r).reverse [] ⟨[.v (.tup (r.map .int)), .v (.tup (o.map .int)), .v (.lst []), .no], []⟩ (fun k rest acc s hx hs => by
      obtain ⟨h1, a, rfl⟩ := hs
      have c1 : r.count k ≤ r.length := List.count_le_length
      have c2 : o.count k ≤ o.length := List.count_le_length
      simp only [List.length_cons] at h1
      have z1 : ((r.count k : Int) - o.count k).natAbs < 2 ^ 63 := by omega
      have z2 : 1 * ((r.count k : Int) - o.count k).toNat ≤ 16777216 := by omega
      have z3 : acc.length + ((r.count k : Int) - o.count k).toNat ≤ 16777216 := by omega
      refine ⟨⟨[.v (.tup (r.map .int)), .v (.tup (o.map .int)), .v (.lst ((acc ++ List.replicate ((r.count k : Int) - o.count k).toNat k).map .int)), .v (.int k)], []⟩, .inl ?_, ?_, _, rfl⟩
      · have f1 := e_times_in r k (by omega)
        have f2 := e_times_in o k (by omega)
        simp only [takeB, runV, runI, entV, entI, endV, endI, seqs, ifs, retv, reto, setv, seto, asg, drop1, retn, getv, geto, cst, bor, ofO, ofV, asL, seqD, bin2, bin2o, tst, chn, andv, orv, notv, ifv, andt, ort, nott, anil, acons, astar, astarB, mkT, mkL, call1, callo, callF, callFo, callKF, perm, rtD, S.setv, S.setO, szOk, subD_e, ltD_e, leD_e, gtD_e, geD_e, modD_e, fdivD_e, powD_e, addD_i, addD_l, addD_t, mulT_i, mulT_l, mulT_t, mulOk, negF, eqD, neD, isN, notN, ixD_t, ixD_l, ixD_f, lenD_t, lenD_l, lenD_f, lenL, tupD_t, tupD_l, tupD_f, tupL, listD_t, listD_l, listD_f, listL, intD_i, intD_b, absD_e, max2D, min2D, sumL, sumD_t, sumD_l, sortedV_t, sortedV_l, sortedV_f, sortedG_ints, isi_int, isi_bl, isi_tup, isi_lst, isi_str, isi_non, kb_ii, kb_ib, kb_is, kb_it, kb_il, kb_bi, kb_bb, kb_bs, kb_bt, kb_bl, kb_ti, kb_tb, kb_ts, kb_tt, kb_tl, kb_li, kb_lb, kb_ls, kb_lt, kb_ll, kb_si, kb_sb, kb_ss, kb_st, kb_sl, kb_ni, kb_nb, kb_ns, kb_nt, kb_nl, nxt, never, brk, ctn, itS, parA, mnil, mcv, mco, setAll, tgN, tgT, tgsC, tgs0, yes, lcStep, wipeS, wipeL, backS, backL, keepS, intsD_map, boolsD_map, sortRo, revF, revD, callN, callI, ownO, putO, ixO, setIx, appE, Option.bind_some, Option.map_some, Option.bind_none, Option.map_none, List.length_cons, List.length_nil, List.length_map, List.map_cons, List.map_nil, List.cons_append, List.nil_append, List.append_nil, List.replicate_succ, List.replicate_zero, List.reduceReplicate, List.getElem?_cons_zero, List.getElem?_cons_succ, List.getElem?_nil, List.set_cons_zero, List.set_cons_succ, Nat.reduceAdd, Nat.reduceSub, Nat.reduceMul, Nat.reduceEqDiff, Nat.reduceLeDiff, Nat.reduceLT, Int.add_zero, Int.zero_add, List.map_reverse, Nat.reduceBEq, Int.reduceAdd, Int.reduceSub, Int.reduceLT, Int.reduceLE, Int.reduceEq, Int.reduceNeg, Int.reduceToNat, Int.reduceMul, Nat.zero_add, Nat.add_zero, if_true, if_false, reduceIte, decide_true, decide_false, decide_eq_true_eq, Bool.not_true, Bool.not_false, Bool.and_true, Bool.true_and, Bool.and_self, Bool.and_false, Bool.false_and, Bool.or_true, Bool.true_or, Bool.or_false, Bool.false_or, Bool.false_eq_true, Bool.true_eq_false, and_self, and_true, true_and, true_or, or_true, Bool.or_self, Bool.not_not, Function.comp_apply, ne_eq, not_true_eq_false, not_false_eq_true, allL_yes, List.filterMap_cons, List.filterMap_nil, f1, f2, z1, z2, z3, List.length_map, List.map_replicate, List.length_replicate, List.flatten_replicate_singleton, List.map_append]
      · simp only [List.length_append, List.length_replicate]; omega)
    ⟨by simp; omega, _, rfl⟩
  subst e2
  have e4 : (sortU r).reverse.foldl (fun acc k => acc ++ List.replicate ((r.count k : Int) - o.count k).toNat k) [] = taken r o := by
    rw [foldl_app, List.nil_append]; rfl
  rw [e4] at e1
  have e0 := e_sizes_of r h.1.2 (by omega)
  have e5 : (itS (callF F_sizes_of (acons (getv 0) anil))) ⟨[.v (.tup (r.map .int)), .v (.tup (o.map .int)), .v (.lst []), .no], []⟩ = some ((sortU r).reverse.map .int, ⟨[.v (.tup (r.map .int)), .v (.tup (o.map .int)), .v (.lst []), .no], []⟩) := by
    simp only [runV, runI, entV, entI, endV, endI, seqs, ifs, retv, reto, setv, seto, asg, drop1, retn, getv, geto, cst, bor, ofO, ofV, asL, seqD, bin2, bin2o, tst, chn, andv, orv, notv, ifv, andt, ort, nott, anil, acons, astar, astarB, mkT, mkL, call1, callo, callF, callFo, callKF, perm, rtD, S.setv, S.setO, szOk, subD_e, ltD_e, leD_e, gtD_e, geD_e, modD_e, fdivD_e, powD_e, addD_i, addD_l, addD_t, mulT_i, mulT_l, mulT_t, mulOk, negF, eqD, neD, isN, notN, ixD_t, ixD_l, ixD_f, lenD_t, lenD_l, lenD_f, lenL, tupD_t, tupD_l, tupD_f, tupL, listD_t, listD_l, listD_f, listL, intD_i, intD_b, absD_e, max2D, min2D, sumL, sumD_t, sumD_l, sortedV_t, sortedV_l, sortedV_f, sortedG_ints, isi_int, isi_bl, isi_tup, isi_lst, isi_str, isi_non, kb_ii, kb_ib, kb_is, kb_it, kb_il, kb_bi, kb_bb, kb_bs, kb_bt, kb_bl, kb_ti, kb_tb, kb_ts, kb_tt, kb_tl, kb_li, kb_lb, kb_ls, kb_lt, kb_ll, kb_si, kb_sb, kb_ss, kb_st, kb_sl, kb_ni, kb_nb, kb_ns, kb_nt, kb_nl, nxt, never, brk, ctn, itS, parA, mnil, mcv, mco, setAll, tgN, tgT, tgsC, tgs0, yes, lcStep, wipeS, wipeL, backS, backL, keepS, intsD_map, boolsD_map, sortRo, revF, revD, callN, callI, ownO, putO, ixO, setIx, appE, Option.bind_some, Option.map_some, Option.bind_none, Option.map_none, List.length_cons, List.length_nil, List.length_map, List.map_cons, List.map_nil, List.cons_append, List.nil_append, List.append_nil, List.replicate_succ, List.replicate_zero, List.reduceReplicate, List.getElem?_cons_zero, List.getElem?_cons_succ, List.getElem?_nil, List.set_cons_zero, List.set_cons_succ, Nat.reduceAdd, Nat.reduceSub, Nat.reduceMul, Nat.reduceEqDiff, Nat.reduceLeDiff, Nat.reduceLT, Int.add_zero, Int.zero_add, List.map_reverse, Nat.reduceBEq, Int.reduceAdd, Int.reduceSub, Int.reduceLT, Int.reduceLE, Int.reduceEq, Int.reduceNeg, Int.reduceToNat, Int.reduceMul, Nat.zero_add, Nat.add_zero, if_true, if_false, reduceIte, decide_true, decide_false, decide_eq_true_eq, Bool.not_true, Bool.not_false, Bool.and_true, Bool.true_and, Bool.and_self, Bool.and_false, Bool.false_and, Bool.or_true, Bool.true_or, Bool.or_false, Bool.false_or, Bool.false_eq_true, Bool.true_eq_false, and_self, and_true, true_and, true_or, or_true, Bool.or_self, Bool.not_not, Function.comp_apply, ne_eq, not_true_eq_false, not_false_eq_true, allL_yes, List.filterMap_cons, List.filterMap_nil, e0]
  unfold takeB at e1
  have e6 := fors_e e5 e1
  have e7 : setv 2 (ofO (mkL anil)) ⟨[.v (.tup (r.map .int)), .v (.tup (o.map .int)), .no, .no], []⟩ = some (.nx ⟨[.v (.tup (r.map .int)), .v (.tup (o.map .int)), .v (.lst []), .no], []⟩) := by simp only [runV, runI, entV, entI, endV, endI, seqs, ifs, retv, reto, setv, seto, asg, drop1, retn, getv, geto, cst, bor, ofO, ofV, asL, seqD, bin2, bin2o, tst, chn, andv, orv, notv, ifv, andt, ort, nott, anil, acons, astar, astarB, mkT, mkL, call1, callo, callF, callFo, callKF, perm, rtD, S.setv, S.setO, szOk, subD_e, ltD_e, leD_e, gtD_e, geD_e, modD_e, fdivD_e, powD_e, addD_i, addD_l, addD_t, mulT_i, mulT_l, mulT_t, mulOk, negF, eqD, neD, isN, notN, ixD_t, ixD_l, ixD_f, lenD_t, lenD_l, lenD_f, lenL, tupD_t, tupD_l, tupD_f, tupL, listD_t, listD_l, listD_f, listL, intD_i, intD_b, absD_e, max2D, min2D, sumL, sumD_t, sumD_l, sortedV_t, sortedV_l, sortedV_f, sortedG_ints, isi_int, isi_bl, isi_tup, isi_lst, isi_str, isi_non, kb_ii, kb_ib, kb_is, kb_it, kb_il, kb_bi, kb_bb, kb_bs, kb_bt, kb_bl, kb_ti, kb_tb, kb_ts, kb_tt, kb_tl, kb_li, kb_lb, kb_ls, kb_lt, kb_ll, kb_si, kb_sb, kb_ss, kb_st, kb_sl, kb_ni, kb_nb, kb_ns, kb_nt, kb_nl, nxt, never, brk, ctn, itS, parA, mnil, mcv, mco, setAll, tgN, tgT, tgsC, tgs0, yes, lcStep, wipeS, wipeL, backS, backL, keepS, intsD_map, boolsD_map, sortRo, revF, revD, callN, callI, ownO, putO, ixO, setIx, appE, Option.bind_some, Option.map_some, Option.bind_none, Option.map_none, List.length_cons, List.length_nil, List.length_map, List.map_cons, List.map_nil, List.cons_append, List.nil_append, List.append_nil, List.replicate_succ, List.replicate_zero, List.reduceReplicate, List.getElem?_cons_zero, List.getElem?_cons_succ, List.getElem?_nil, List.set_cons_zero, List.set_cons_succ, Nat.reduceAdd, Nat.reduceSub, Nat.reduceMul, Nat.reduceEqDiff, Nat.reduceLeDiff, Nat.reduceLT, Int.add_zero, Int.zero_add, List.map_reverse, Nat.reduceBEq, Int.reduceAdd, Int.reduceSub, Int.reduceLT, Int.reduceLE, Int.reduceEq, Int.reduceNeg, Int.reduceToNat, Int.reduceMul, Nat.zero_add, Nat.add_zero, if_true, if_false, reduceIte, decide_true, decide_false, decide_eq_true_eq, Bool.not_true, Bool.not_false, Bool.and_true, Bool.true_and, Bool.and_self, Bool.and_false, Bool.false_and, Bool.or_true, Bool.true_or, Bool.or_false, Bool.false_or, Bool.false_eq_true, Bool.true_eq_false, and_self, and_true, true_and, true_or, or_true, Bool.or_self, Bool.not_not, Function.comp_apply, ne_eq, not_true_eq_false, not_false_eq_true, allL_yes, List.filterMap_cons, List.filterMap_nil]
  refine runV_e ⟨[.v (.tup (r.map .int)), .v (.tup (o.map .int)), .no, .no], []⟩ rfl rfl (o := some (.rt (.tup ((taken r o).map .int)) ⟨[.v (.tup (r.map .int)), .v (.tup (o.map .int)), .v (.lst ((taken r o).map .int)), a], []⟩)) ?_ rfl
  unfold g_taken_out
  rw [seqs_nx e7, seqs_nx e6]
  simp only [runV, runI, entV, entI, endV, endI, seqs, ifs, retv, reto, setv, seto, asg, drop1, retn, getv, geto, cst, bor, ofO, ofV, asL, seqD, bin2, bin2o, tst, chn, andv, orv, notv, ifv, andt, ort, nott, anil, acons, astar, astarB, mkT, mkL, call1, callo, callF, callFo, callKF, perm, rtD, S.setv, S.setO, szOk, subD_e, ltD_e, leD_e, gtD_e, geD_e, modD_e, fdivD_e, powD_e, addD_i, addD_l, addD_t, mulT_i, mulT_l, mulT_t, mulOk, negF, eqD, neD, isN, notN, ixD_t, ixD_l, ixD_f, lenD_t, lenD_l, lenD_f, lenL, tupD_t, tupD_l, tupD_f, tupL, listD_t, listD_l, listD_f, listL, intD_i, intD_b, absD_e, max2D, min2D, sumL, sumD_t, sumD_l, sortedV_t, sortedV_l, sortedV_f, sortedG_ints, isi_int, isi_bl, isi_tup, isi_lst, isi_str, isi_non, kb_ii, kb_ib, kb_is, kb_it, kb_il, kb_bi, kb_bb, kb_bs, kb_bt, kb_bl, kb_ti, kb_tb, kb_ts, kb_tt, kb_tl, kb_li, kb_lb, kb_ls, kb_lt, kb_ll, kb_si, kb_sb, kb_ss, kb_st, kb_sl, kb_ni, kb_nb, kb_ns, kb_nt, kb_nl, nxt, never, brk, ctn, itS, parA, mnil, mcv, mco, setAll, tgN, tgT, tgsC, tgs0, yes, lcStep, wipeS, wipeL, backS, backL, keepS, intsD_map, boolsD_map, sortRo, revF, revD, callN, callI, ownO, putO, ixO, setIx, appE, Option.bind_some, Option.map_some, Option.bind_none, Option.map_none, List.length_cons, List.length_nil, List.length_map, List.map_cons, List.map_nil, List.cons_append, List.nil_append, List.append_nil, List.replicate_succ, List.replicate_zero, List.reduceReplicate, List.getElem?_cons_zero, List.getElem?_cons_succ, List.getElem?_nil, List.set_cons_zero, List.set_cons_succ, Nat.reduceAdd, Nat.reduceSub, Nat.reduceMul, Nat.reduceEqDiff, Nat.reduceLeDiff, Nat.reduceLT, Int.add_zero, Int.zero_add, List.map_reverse, Nat.reduceBEq, Int.reduceAdd, Int.reduceSub, Int.reduceLT, Int.reduceLE, Int.reduceEq, Int.reduceNeg, Int.reduceToNat, Int.reduceMul, Nat.zero_add, Nat.add_zero, if_true, if_false, reduceIte, decide_true, decide_false, decide_eq_true_eq, Bool.not_true, Bool.not_false, Bool.and_true, Bool.true_and, Bool.and_self, Bool.and_false, Bool.false_and, Bool.or_true, Bool.true_or, Bool.or_false, Bool.false_or, Bool.false_eq_true, Bool.true_eq_false, and_self, and_true, true_and, true_or, or_true, Bool.or_self, Bool.not_not, Function.comp_apply, ne_eq, not_true_eq_false, not_false_eq_true, allL_yes, List.filterMap_cons, List.filterMap_nil]
/-! the next row -/
def next (r : List Int) : List Int := if r = [] then [] else sortR ((r.length : Int) :: (r.filter fun p => decide (1 < p)).map fun p => p - 1)
theorem e_next_row (r : List Int) (h : Ok r) : F_next_row [.tup (r.map .int)] = some (.v (.tup ((next r).map .int))) := by
  have hl := h.len
  by_cases hn : r = []
  · subst hn; rfl
  · have e : lcS [1] (itS (getv 0)) (tgN 1) (tst (bin2 (getv 1) (cst (.int 1)) gtD)) (bin2 (getv 1) (cst (.int 1)) subD) ⟨[.v (.tup (r.map .int)), .no], []⟩
      = some (((r.filter fun p => decide (1 < p)).map fun p => p - 1).map .int, ⟨[.v (.tup (r.map .int)), .no], []⟩) := by
      rw [List.map_map]
      refine lcS_flt (s1 := ⟨[.v (.tup (r.map .int)), .no], []⟩) .int _ _ r (by simp only [runV, runI, entV, entI, endV, endI, seqs, ifs, retv, reto, setv, seto, asg, drop1, retn, getv, geto, cst, bor, ofO, ofV, asL, seqD, bin2, bin2o, tst, chn, andv, orv, notv, ifv, andt, ort, nott, anil, acons, astar, astarB, mkT, mkL, call1, callo, callF, callFo, callKF, perm, rtD, S.setv, S.setO, szOk, subD_e, ltD_e, leD_e, gtD_e, geD_e, modD_e, fdivD_e, powD_e, addD_i, addD_l, addD_t, mulT_i, mulT_l, mulT_t, mulOk, negF, eqD, neD, isN, notN, ixD_t, ixD_l, ixD_f, lenD_t, lenD_l, lenD_f, lenL, tupD_t, tupD_l, tupD_f, tupL, listD_t, listD_l, listD_f, listL, intD_i, intD_b, absD_e, max2D, min2D, sumL, sumD_t, sumD_l, sortedV_t, sortedV_l, sortedV_f, sortedG_ints, isi_int, isi_bl, isi_tup, isi_lst, isi_str, isi_non, kb_ii, kb_ib, kb_is, kb_it, kb_il, kb_bi, kb_bb, kb_bs, kb_bt, kb_bl, kb_ti, kb_tb, kb_ts, kb_tt, kb_tl, kb_li, kb_lb, kb_ls, kb_lt, kb_ll, kb_si, kb_sb, kb_ss, kb_st, kb_sl, kb_ni, kb_nb, kb_ns, kb_nt, kb_nl, nxt, never, brk, ctn, itS, parA, mnil, mcv, mco, setAll, tgN, tgT, tgsC, tgs0, yes, lcStep, wipeS, wipeL, backS, backL, keepS, intsD_map, boolsD_map, sortRo, revF, revD, callN, callI, ownO, putO, ixO, setIx, appE, Option.bind_some, Option.map_some, Option.bind_none, Option.map_none, List.length_cons, List.length_nil, List.length_map, List.map_cons, List.map_nil, List.cons_append, List.nil_append, List.append_nil, List.replicate_succ, List.replicate_zero, List.reduceReplicate, List.getElem?_cons_zero, List.getElem?_cons_succ, List.getElem?_nil, List.set_cons_zero, List.set_cons_succ, Nat.reduceAdd, Nat.reduceSub, Nat.reduceMul, Nat.reduceEqDiff, Nat.reduceLeDiff, Nat.reduceLT, Int.add_zero, Int.zero_add, List.map_reverse, Nat.reduceBEq, Int.reduceAdd, Int.reduceSub, Int.reduceLT, Int.reduceLE, Int.reduceEq, Int.reduceNeg, Int.reduceToNat, Int.reduceMul, Nat.zero_add, Nat.add_zero, if_true, if_false, reduceIte, decide_true, decide_false, decide_eq_true_eq, Bool.not_true, Bool.not_false, Bool.and_true, Bool.true_and, Bool.and_self, Bool.and_false, Bool.false_and, Bool.or_true, Bool.true_or, Bool.or_false, Bool.false_or, Bool.false_eq_true, Bool.true_eq_false, and_self, and_true, true_and, true_or, or_true, Bool.or_self, Bool.not_not, Function.comp_apply, ne_eq, not_true_eq_false, not_false_eq_true, allL_yes, List.filterMap_cons, List.filterMap_nil]) (by omega) fun x hx => ?_
      by_cases hk : 1 < x <;> simp only [runV, runI, entV, entI, endV, endI, seqs, ifs, retv, reto, setv, seto, asg, drop1, retn, getv, geto, cst, bor, ofO, ofV, asL, seqD, bin2, bin2o, tst, chn, andv, orv, notv, ifv, andt, ort, nott, anil, acons, astar, astarB, mkT, mkL, call1, callo, callF, callFo, callKF, perm, rtD, S.setv, S.setO, szOk, subD_e, ltD_e, leD_e, gtD_e, geD_e, modD_e, fdivD_e, powD_e, addD_i, addD_l, addD_t, mulT_i, mulT_l, mulT_t, mulOk, negF, eqD, neD, isN, notN, ixD_t, ixD_l, ixD_f, lenD_t, lenD_l, lenD_f, lenL, tupD_t, tupD_l, tupD_f, tupL, listD_t, listD_l, listD_f, listL, intD_i, intD_b, absD_e, max2D, min2D, sumL, sumD_t, sumD_l, sortedV_t, sortedV_l, sortedV_f, sortedG_ints, isi_int, isi_bl, isi_tup, isi_lst, isi_str, isi_non, kb_ii, kb_ib, kb_is, kb_it, kb_il, kb_bi, kb_bb, kb_bs, kb_bt, kb_bl, kb_ti, kb_tb, kb_ts, kb_tt, kb_tl, kb_li, kb_lb, kb_ls, kb_lt, kb_ll, kb_si, kb_sb, kb_ss, kb_st, kb_sl, kb_ni, kb_nb, kb_ns, kb_nt, kb_nl, nxt, never, brk, ctn, itS, parA, mnil, mcv, mco, setAll, tgN, tgT, tgsC, tgs0, yes, lcStep, wipeS, wipeL, backS, backL, keepS, intsD_map, boolsD_map, sortRo, revF, revD, callN, callI, ownO, putO, ixO, setIx, appE, Option.bind_some, Option.map_some, Option.bind_none, Option.map_none, List.length_cons, List.length_nil, List.length_map, List.map_cons, List.map_nil, List.cons_append, List.nil_append, List.append_nil, List.replicate_succ, List.replicate_zero, List.reduceReplicate, List.getElem?_cons_zero, List.getElem?_cons_succ, List.getElem?_nil, List.set_cons_zero, List.set_cons_succ, Nat.reduceAdd, Nat.reduceSub, Nat.reduceMul, Nat.reduceEqDiff, Nat.reduceLeDiff, Nat.reduceLT, Int.add_zero, Int.zero_add, List.map_reverse, Nat.reduceBEq, Int.reduceAdd, Int.reduceSub, Int.reduceLT, Int.reduceLE, Int.reduceEq, Int.reduceNeg, Int.reduceToNat, Int.reduceMul, Nat.zero_add, Nat.add_zero, if_true, if_false, reduceIte, decide_true, decide_false, decide_eq_true_eq, Bool.not_true, Bool.not_false, Bool.and_true, Bool.true_and, Bool.and_self, Bool.and_false, Bool.false_and, Bool.or_true, Bool.true_or, Bool.or_false, Bool.false_or, Bool.false_eq_true, Bool.true_eq_false, and_self, and_true, true_and, true_or, or_true, Bool.or_self, Bool.not_not, Function.comp_apply, ne_eq, not_true_eq_false, not_false_eq_true, allL_yes, List.filterMap_cons, List.filterMap_nil, hk]
    have e2 := eqB_row0 r
    have e3 := e_falling_row ((r.length : Int) :: (r.filter fun p => decide (1 < p)).map fun p => p - 1)
    have e4 : ((r.filter fun p => decide (1 < p)).map fun p => p - 1).length + 1 ≤ 16777216 := by
      have := List.length_filter_le (fun p => decide (1 < p)) r
      rw [List.length_map]; omega
    unfold next
    rw [if_neg hn]
    rw [List.map_cons] at e3
    generalize hy : ((r.filter fun p => decide (1 < p)).map fun p => p - 1) = y at *
    simp only [F_next_row, g_next_row, runV, runI, entV, entI, endV, endI, seqs, ifs, retv, reto, setv, seto, asg, drop1, retn, getv, geto, cst, bor, ofO, ofV, asL, seqD, bin2, bin2o, tst, chn, andv, orv, notv, ifv, andt, ort, nott, anil, acons, astar, astarB, mkT, mkL, call1, callo, callF, callFo, callKF, perm, rtD, S.setv, S.setO, szOk, subD_e, ltD_e, leD_e, gtD_e, geD_e, modD_e, fdivD_e, powD_e, addD_i, addD_l, addD_t, mulT_i, mulT_l, mulT_t, mulOk, negF, eqD, neD, isN, notN, ixD_t, ixD_l, ixD_f, lenD_t, lenD_l, lenD_f, lenL, tupD_t, tupD_l, tupD_f, tupL, listD_t, listD_l, listD_f, listL, intD_i, intD_b, absD_e, max2D, min2D, sumL, sumD_t, sumD_l, sortedV_t, sortedV_l, sortedV_f, sortedG_ints, isi_int, isi_bl, isi_tup, isi_lst, isi_str, isi_non, kb_ii, kb_ib, kb_is, kb_it, kb_il, kb_bi, kb_bb, kb_bs, kb_bt, kb_bl, kb_ti, kb_tb, kb_ts, kb_tt, kb_tl, kb_li, kb_lb, kb_ls, kb_lt, kb_ll, kb_si, kb_sb, kb_ss, kb_st, kb_sl, kb_ni, kb_nb, kb_ns, kb_nt, kb_nl, nxt, never, brk, ctn, itS, parA, mnil, mcv, mco, setAll, tgN, tgT, tgsC, tgs0, yes, lcStep, wipeS, wipeL, backS, backL, keepS, intsD_map, boolsD_map, sortRo, revF, revD, callN, callI, ownO, putO, ixO, setIx, appE, Option.bind_some, Option.map_some, Option.bind_none, Option.map_none, List.length_cons, List.length_nil, List.length_map, List.map_cons, List.map_nil, List.cons_append, List.nil_append, List.append_nil, List.replicate_succ, List.replicate_zero, List.reduceReplicate, List.getElem?_cons_zero, List.getElem?_cons_succ, List.getElem?_nil, List.set_cons_zero, List.set_cons_succ, Nat.reduceAdd, Nat.reduceSub, Nat.reduceMul, Nat.reduceEqDiff, Nat.reduceLeDiff, Nat.reduceLT, Int.add_zero, Int.zero_add, List.map_reverse, Nat.reduceBEq, Int.reduceAdd, Int.reduceSub, Int.reduceLT, Int.reduceLE, Int.reduceEq, Int.reduceNeg, Int.reduceToNat, Int.reduceMul, Nat.zero_add, Nat.add_zero, if_true, if_false, reduceIte, decide_true, decide_false, decide_eq_true_eq, Bool.not_true, Bool.not_false, Bool.and_true, Bool.true_and, Bool.and_self, Bool.and_false, Bool.false_and, Bool.or_true, Bool.true_or, Bool.or_false, Bool.false_or, Bool.false_eq_true, Bool.true_eq_false, and_self, and_true, true_and, true_or, or_true, Bool.or_self, Bool.not_not, Function.comp_apply, ne_eq, not_true_eq_false, not_false_eq_true, allL_yes, List.filterMap_cons, List.filterMap_nil, e, e2, e3, e4, hn]
theorem next_ok {r : List Int} (h : Ok r) : Ok (next r) ∧ (next r).sum = r.sum := by
  unfold next
  by_cases hn : r = []
  · subst hn; simp [Ok, Row]
  · rw [if_neg hn]
    have hp : ∀ l : List Int, (∀ x ∈ l, 1 ≤ x) → (l.length : Int) + ((l.filter fun p => decide (1 < p)).map fun p => p - 1).sum = l.sum := by
      intro l
      induction l with
      | nil => simp
      | cons x l ih =>
        intro hx
        have h1 := hx x List.mem_cons_self
        have h2 := ih fun y hy => hx y (List.mem_cons_of_mem _ hy)
        by_cases hk : 1 < x
        · rw [List.filter_cons_of_pos (by simpa using hk), List.map_cons, List.sum_cons, List.sum_cons, List.length_cons]; omega
        · rw [List.filter_cons_of_neg (by simpa using hk), List.sum_cons, List.length_cons]; omega
    have hs : (sortR ((r.length : Int) :: (r.filter fun p => decide (1 < p)).map fun p => p - 1)).sum = r.sum := by
      rw [sum_perm (sortR_perm _), List.sum_cons]; exact hp r h.1.2
    refine ⟨⟨sortR_row fun x hx => ?_, by rw [hs]; exact h.2⟩, hs⟩
    rcases List.mem_cons.mp hx with e | e
    · have : 0 < r.length := List.length_pos_iff.mpr hn
      omega
    · obtain ⟨p, hp, rfl⟩ := List.mem_map.mp e
      have := of_decide_eq_true (List.mem_filter.mp hp).2
      omega
theorem e_dealt (r : List Int) (h : Ok r) : F_dealt [.tup (r.map .int)] = some (.v (.tup ((next r).map .int))) := by
  simp only [F_dealt, g_dealt, runV, runI, entV, entI, endV, endI, seqs, ifs, retv, reto, setv, seto, asg, drop1, retn, getv, geto, cst, bor, ofO, ofV, asL, seqD, bin2, bin2o, tst, chn, andv, orv, notv, ifv, andt, ort, nott, anil, acons, astar, astarB, mkT, mkL, call1, callo, callF, callFo, callKF, perm, rtD, S.setv, S.setO, szOk, subD_e, ltD_e, leD_e, gtD_e, geD_e, modD_e, fdivD_e, powD_e, addD_i, addD_l, addD_t, mulT_i, mulT_l, mulT_t, mulOk, negF, eqD, neD, isN, notN, ixD_t, ixD_l, ixD_f, lenD_t, lenD_l, lenD_f, lenL, tupD_t, tupD_l, tupD_f, tupL, listD_t, listD_l, listD_f, listL, intD_i, intD_b, absD_e, max2D, min2D, sumL, sumD_t, sumD_l, sortedV_t, sortedV_l, sortedV_f, sortedG_ints, isi_int, isi_bl, isi_tup, isi_lst, isi_str, isi_non, kb_ii, kb_ib, kb_is, kb_it, kb_il, kb_bi, kb_bb, kb_bs, kb_bt, kb_bl, kb_ti, kb_tb, kb_ts, kb_tt, kb_tl, kb_li, kb_lb, kb_ls, kb_lt, kb_ll, kb_si, kb_sb, kb_ss, kb_st, kb_sl, kb_ni, kb_nb, kb_ns, kb_nt, kb_nl, nxt, never, brk, ctn, itS, parA, mnil, mcv, mco, setAll, tgN, tgT, tgsC, tgs0, yes, lcStep, wipeS, wipeL, backS, backL, keepS, intsD_map, boolsD_map, sortRo, revF, revD, callN, callI, ownO, putO, ixO, setIx, appE, Option.bind_some, Option.map_some, Option.bind_none, Option.map_none, List.length_cons, List.length_nil, List.length_map, List.map_cons, List.map_nil, List.cons_append, List.nil_append, List.append_nil, List.replicate_succ, List.replicate_zero, List.reduceReplicate, List.getElem?_cons_zero, List.getElem?_cons_succ, List.getElem?_nil, List.set_cons_zero, List.set_cons_succ, Nat.reduceAdd, Nat.reduceSub, Nat.reduceMul, Nat.reduceEqDiff, Nat.reduceLeDiff, Nat.reduceLT, Int.add_zero, Int.zero_add, List.map_reverse, Nat.reduceBEq, Int.reduceAdd, Int.reduceSub, Int.reduceLT, Int.reduceLE, Int.reduceEq, Int.reduceNeg, Int.reduceToNat, Int.reduceMul, Nat.zero_add, Nat.add_zero, if_true, if_false, reduceIte, decide_true, decide_false, decide_eq_true_eq, Bool.not_true, Bool.not_false, Bool.and_true, Bool.true_and, Bool.and_self, Bool.and_false, Bool.false_and, Bool.or_true, Bool.true_or, Bool.or_false, Bool.false_or, Bool.false_eq_true, Bool.true_eq_false, and_self, and_true, true_and, true_or, or_true, Bool.or_self, Bool.not_not, Function.comp_apply, ne_eq, not_true_eq_false, not_false_eq_true, allL_yes, List.filterMap_cons, List.filterMap_nil, e_check_row r h, e_next_row r h]
/-! the rows ahead -/
def grown (r : List Int) (k : Int) : List Int := (taken r [k]).map fun p => p + 1
def aheadOne (r : List Int) (k : Int) : List Int := sortR (grown r k ++ List.replicate (k - (grown r k).length).toNat 1)
def aheadSizes (r : List Int) : List Int := (sortU r).reverse.filter fun k => decide ((r.length : Int) - 1 ≤ k)
def ahead (r : List Int) : List (List Int) := if r = [] then [[]] else sortRw ((aheadSizes r).map (aheadOne r))
def aheadB : S → Option Fl := (ifs (tst (bin2 (getv 2) (bin2 (call1 (acons (getv 0) anil) lenD) (cst (.int 1)) subD) geD)) (seqs (setv 3 (ofO (lcS [4] (itS (callF F_taken_out (acons (getv 0) (acons (mkT (acons (getv 2) anil)) anil)))) (tgN 4) yes (bin2 (getv 4) (cst (.int 1)) addD))))
  (drop1 (appE 1 (callF F_falling_row (acons (ofO (mkL (astar (getv 3) (astar (bin2 (ofO (mkL (acons (cst (.int 1)) anil))) (bin2 (getv 2) (call1 (acons (getv 3) anil) lenD) subD) mulT) anil)))) anil))))) nxt)
theorem ahead_no (r : List Int) (acc : List D) (k : Int) (a b : Sl) (hk : ¬ (r.length : Int) - 1 ≤ k) : (tgN 2 (.int k) ⟨[.v (.tup (r.map .int)), .own acc, a, b, .no], []⟩).bind aheadB = some (.nx ⟨[.v (.tup (r.map .int)), .own acc, .v (.int k), b, .no], []⟩) := by
  simp only [aheadB, runV, runI, entV, entI, endV, endI, seqs, ifs, retv, reto, setv, seto, asg, drop1, retn, getv, geto, cst, bor, ofO, ofV, asL, seqD, bin2, bin2o, tst, chn, andv, orv, notv, ifv, andt, ort, nott, anil, acons, astar, astarB, mkT, mkL, call1, callo, callF, callFo, callKF, perm, rtD, S.setv, S.setO, szOk, subD_e, ltD_e, leD_e, gtD_e, geD_e, modD_e, fdivD_e, powD_e, addD_i, addD_l, addD_t, mulT_i, mulT_l, mulT_t, mulOk, negF, eqD, neD, isN, notN, ixD_t, ixD_l, ixD_f, lenD_t, lenD_l, lenD_f, lenL, tupD_t, tupD_l, tupD_f, tupL, listD_t, listD_l, listD_f, listL, intD_i, intD_b, absD_e, max2D, min2D, sumL, sumD_t, sumD_l, sortedV_t, sortedV_l, sortedV_f, sortedG_ints, isi_int, isi_bl, isi_tup, isi_lst, isi_str, isi_non, kb_ii, kb_ib, kb_is, kb_it, kb_il, kb_bi, kb_bb, kb_bs, kb_bt, kb_bl, kb_ti, kb_tb, kb_ts, kb_tt, kb_tl, kb_li, kb_lb, kb_ls, kb_lt, kb_ll, kb_si, kb_sb, kb_ss, kb_st, kb_sl, kb_ni, kb_nb, kb_ns, kb_nt, kb_nl, nxt, never, brk, ctn, itS, parA, mnil, mcv, mco, setAll, tgN, tgT, tgsC, tgs0, yes, lcStep, wipeS, wipeL, backS, backL, keepS, intsD_map, boolsD_map, sortRo, revF, revD, callN, callI, ownO, putO, ixO, setIx, appE, Option.bind_some, Option.map_some, Option.bind_none, Option.map_none, List.length_cons, List.length_nil, List.length_map, List.map_cons, List.map_nil, List.cons_append, List.nil_append, List.append_nil, List.replicate_succ, List.replicate_zero, List.reduceReplicate, List.getElem?_cons_zero, List.getElem?_cons_succ, List.getElem?_nil, List.set_cons_zero, List.set_cons_succ, Nat.reduceAdd, Nat.reduceSub, Nat.reduceMul, Nat.reduceEqDiff, Nat.reduceLeDiff, Nat.reduceLT, Int.add_zero, Int.zero_add, List.map_reverse, Nat.reduceBEq, Int.reduceAdd, Int.reduceSub, Int.reduceLT, Int.reduceLE, Int.reduceEq, Int.reduceNeg, Int.reduceToNat, Int.reduceMul, Nat.zero_add, Nat.add_zero, if_true, if_false, reduceIte, decide_true, decide_false, decide_eq_true_eq, Bool.not_true, Bool.not_false, Bool.and_true, Bool.true_and, Bool.and_self, Bool.and_false, Bool.false_and, Bool.or_true, Bool.true_or, Bool.or_false, Bool.false_or, Bool.false_eq_true, Bool.true_eq_false, and_self, and_true, true_and, true_or, or_true, Bool.or_self, Bool.not_not, Function.comp_apply, ne_eq, not_true_eq_false, not_false_eq_true, allL_yes, List.filterMap_cons, List.filterMap_nil, hk]
theorem ahead_yes (r : List Int) (h : Ok r) (acc : List D) (k : Int) (a b : Sl) (hm : k ∈ r) (hk : (r.length : Int) - 1 ≤ k) (hz : acc.length ≤ 16777215) :
    (tgN 2 (.int k) ⟨[.v (.tup (r.map .int)), .own acc, a, b, .no], []⟩).bind aheadB = some (.nx ⟨[.v (.tup (r.map .int)), .own (acc ++ [rowD (aheadOne r k)]), .v (.int k), .v (.lst ((grown r k).map .int)), .no], []⟩) := by
  have hl := h.len
  have hk6 := h.le k hm
  have hk1 := h.1.2 k hm
  have e0 := e_taken_out r [k] h (by simp)
  have hg : (grown r k).length = r.length - 1 := by rw [grown, List.length_map, (taken_perm hm).length_eq, List.length_erase_of_mem hm]
  have e1 : lcS [4] (itS (callF F_taken_out (acons (getv 0) (acons (mkT (acons (getv 2) anil)) anil)))) (tgN 4) yes (bin2 (getv 4) (cst (.int 1)) addD) ⟨[.v (.tup (r.map .int)), .own acc, .v (.int k), b, .no], []⟩
      = some ((grown r k).map .int, ⟨[.v (.tup (r.map .int)), .own acc, .v (.int k), b, .no], []⟩) := by
    rw [grown, List.map_map]
    have ht : (taken r [k]).length ≤ 16777216 := by rw [(taken_perm hm).length_eq, List.length_erase_of_mem hm]; omega
    rw [List.map_cons, List.map_nil] at e0
    refine lcS_map (s1 := ⟨[.v (.tup (r.map .int)), .own acc, .v (.int k), b, .no], []⟩) .int _ (taken r [k]) (by simp only [runV, runI, entV, entI, endV, endI, seqs, ifs, retv, reto, setv, seto, asg, drop1, retn, getv, geto, cst, bor, ofO, ofV, asL, seqD, bin2, bin2o, tst, chn, andv, orv, notv, ifv, andt, ort, nott, anil, acons, astar, astarB, mkT, mkL, call1, callo, callF, callFo, callKF, perm, rtD, S.setv, S.setO, szOk, subD_e, ltD_e, leD_e, gtD_e, geD_e, modD_e, fdivD_e, powD_e, addD_i, addD_l, addD_t, mulT_i, mulT_l, mulT_t, mulOk, negF, eqD, neD, isN, notN, ixD_t, ixD_l, ixD_f, lenD_t, lenD_l, lenD_f, lenL, tupD_t, tupD_l, tupD_f, tupL, listD_t, listD_l, listD_f, listL, intD_i, intD_b, absD_e, max2D, min2D, sumL, sumD_t, sumD_l, sortedV_t, sortedV_l, sortedV_f, sortedG_ints, isi_int, isi_bl, isi_tup, isi_lst, isi_str, isi_non, kb_ii, kb_ib, kb_is, kb_it, kb_il, kb_bi, kb_bb, kb_bs, kb_bt, kb_bl, kb_ti, kb_tb, kb_ts, kb_tt, kb_tl, kb_li, kb_lb, kb_ls, kb_lt, kb_ll, kb_si, kb_sb, kb_ss, kb_st, kb_sl, kb_ni, kb_nb, kb_ns, kb_nt, kb_nl, nxt, never, brk, ctn, itS, parA, mnil, mcv, mco, setAll, tgN, tgT, tgsC, tgs0, yes, lcStep, wipeS, wipeL, backS, backL, keepS, intsD_map, boolsD_map, sortRo, revF, revD, callN, callI, ownO, putO, ixO, setIx, appE, Option.bind_some, Option.map_some, Option.bind_none, Option.map_none, List.length_cons, List.length_nil, List.length_map, List.map_cons, List.map_nil, List.cons_append, List.nil_append, List.append_nil, List.replicate_succ, List.replicate_zero, List.reduceReplicate, List.getElem?_cons_zero, List.getElem?_cons_succ, List.getElem?_nil, List.set_cons_zero, List.set_cons_succ, Nat.reduceAdd, Nat.reduceSub, Nat.reduceMul, Nat.reduceEqDiff, Nat.reduceLeDiff, Nat.reduceLT, Int.add_zero, Int.zero_add, List.map_reverse, Nat.reduceBEq, Int.reduceAdd, Int.reduceSub, Int.reduceLT, Int.reduceLE, Int.reduceEq, Int.reduceNeg, Int.reduceToNat, Int.reduceMul, Nat.zero_add, Nat.add_zero, if_true, if_false, reduceIte, decide_true, decide_false, decide_eq_true_eq, Bool.not_true, Bool.not_false, Bool.and_true, Bool.true_and, Bool.and_self, Bool.and_false, Bool.false_and, Bool.or_true, Bool.true_or, Bool.or_false, Bool.false_or, Bool.false_eq_true, Bool.true_eq_false, and_self, and_true, true_and, true_or, or_true, Bool.or_self, Bool.not_not, Function.comp_apply, ne_eq, not_true_eq_false, not_false_eq_true, allL_yes, List.filterMap_cons, List.filterMap_nil, e0]) ht fun x hx => ?_
    simp only [runV, runI, entV, entI, endV, endI, seqs, ifs, retv, reto, setv, seto, asg, drop1, retn, getv, geto, cst, bor, ofO, ofV, asL, seqD, bin2, bin2o, tst, chn, andv, orv, notv, ifv, andt, ort, nott, anil, acons, astar, astarB, mkT, mkL, call1, callo, callF, callFo, callKF, perm, rtD, S.setv, S.setO, szOk, subD_e, ltD_e, leD_e, gtD_e, geD_e, modD_e, fdivD_e, powD_e, addD_i, addD_l, addD_t, mulT_i, mulT_l, mulT_t, mulOk, negF, eqD, neD, isN, notN, ixD_t, ixD_l, ixD_f, lenD_t, lenD_l, lenD_f, lenL, tupD_t, tupD_l, tupD_f, tupL, listD_t, listD_l, listD_f, listL, intD_i, intD_b, absD_e, max2D, min2D, sumL, sumD_t, sumD_l, sortedV_t, sortedV_l, sortedV_f, sortedG_ints, isi_int, isi_bl, isi_tup, isi_lst, isi_str, isi_non, kb_ii, kb_ib, kb_is, kb_it, kb_il, kb_bi, kb_bb, kb_bs, kb_bt, kb_bl, kb_ti, kb_tb, kb_ts, kb_tt, kb_tl, kb_li, kb_lb, kb_ls, kb_lt, kb_ll, kb_si, kb_sb, kb_ss, kb_st, kb_sl, kb_ni, kb_nb, kb_ns, kb_nt, kb_nl, nxt, never, brk, ctn, itS, parA, mnil, mcv, mco, setAll, tgN, tgT, tgsC, tgs0, yes, lcStep, wipeS, wipeL, backS, backL, keepS, intsD_map, boolsD_map, sortRo, revF, revD, callN, callI, ownO, putO, ixO, setIx, appE, Option.bind_some, Option.map_some, Option.bind_none, Option.map_none, List.length_cons, List.length_nil, List.length_map, List.map_cons, List.map_nil, List.cons_append, List.nil_append, List.append_nil, List.replicate_succ, List.replicate_zero, List.reduceReplicate, List.getElem?_cons_zero, List.getElem?_cons_succ, List.getElem?_nil, List.set_cons_zero, List.set_cons_succ, Nat.reduceAdd, Nat.reduceSub, Nat.reduceMul, Nat.reduceEqDiff, Nat.reduceLeDiff, Nat.reduceLT, Int.add_zero, Int.zero_add, List.map_reverse, Nat.reduceBEq, Int.reduceAdd, Int.reduceSub, Int.reduceLT, Int.reduceLE, Int.reduceEq, Int.reduceNeg, Int.reduceToNat, Int.reduceMul, Nat.zero_add, Nat.add_zero, if_true, if_false, reduceIte, decide_true, decide_false, decide_eq_true_eq, Bool.not_true, Bool.not_false, Bool.and_true, Bool.true_and, Bool.and_self, Bool.and_false, Bool.false_and, Bool.or_true, Bool.true_or, Bool.or_false, Bool.false_or, Bool.false_eq_true, Bool.true_eq_false, and_self, and_true, true_and, true_or, or_true, Bool.or_self, Bool.not_not, Function.comp_apply, ne_eq, not_true_eq_false, not_false_eq_true, allL_yes, List.filterMap_cons, List.filterMap_nil]
  have e2 := e_falling_row (grown r k ++ List.replicate (k - (grown r k).length).toNat 1)
  have e3 : (aheadOne r k) = sortR (grown r k ++ List.replicate (k - (grown r k).length).toNat 1) := rfl
  rw [rowD, e3]
  generalize grown r k = y at *
  have z1 : (k - (y.length : Int)).natAbs < 2 ^ 63 := by omega
  have z2 : 1 * (k - (y.length : Int)).toNat ≤ 16777216 := by omega
  have z3 : y.length + (k - (y.length : Int)).toNat ≤ 16777216 := by omega
  rw [List.map_append, List.map_replicate] at e2
  simp only [aheadB, runV, runI, entV, entI, endV, endI, seqs, ifs, retv, reto, setv, seto, asg, drop1, retn, getv, geto, cst, bor, ofO, ofV, asL, seqD, bin2, bin2o, tst, chn, andv, orv, notv, ifv, andt, ort, nott, anil, acons, astar, astarB, mkT, mkL, call1, callo, callF, callFo, callKF, perm, rtD, S.setv, S.setO, szOk, subD_e, ltD_e, leD_e, gtD_e, geD_e, modD_e, fdivD_e, powD_e, addD_i, addD_l, addD_t, mulT_i, mulT_l, mulT_t, mulOk, negF, eqD, neD, isN, notN, ixD_t, ixD_l, ixD_f, lenD_t, lenD_l, lenD_f, lenL, tupD_t, tupD_l, tupD_f, tupL, listD_t, listD_l, listD_f, listL, intD_i, intD_b, absD_e, max2D, min2D, sumL, sumD_t, sumD_l, sortedV_t, sortedV_l, sortedV_f, sortedG_ints, isi_int, isi_bl, isi_tup, isi_lst, isi_str, isi_non, kb_ii, kb_ib, kb_is, kb_it, kb_il, kb_bi, kb_bb, kb_bs, kb_bt, kb_bl, kb_ti, kb_tb, kb_ts, kb_tt, kb_tl, kb_li, kb_lb, kb_ls, kb_lt, kb_ll, kb_si, kb_sb, kb_ss, kb_st, kb_sl, kb_ni, kb_nb, kb_ns, kb_nt, kb_nl, nxt, never, brk, ctn, itS, parA, mnil, mcv, mco, setAll, tgN, tgT, tgsC, tgs0, yes, lcStep, wipeS, wipeL, backS, backL, keepS, intsD_map, boolsD_map, sortRo, revF, revD, callN, callI, ownO, putO, ixO, setIx, appE, Option.bind_some, Option.map_some, Option.bind_none, Option.map_none, List.length_cons, List.length_nil, List.length_map, List.map_cons, List.map_nil, List.cons_append, List.nil_append, List.append_nil, List.replicate_succ, List.replicate_zero, List.reduceReplicate, List.getElem?_cons_zero, List.getElem?_cons_succ, List.getElem?_nil, List.set_cons_zero, List.set_cons_succ, Nat.reduceAdd, Nat.reduceSub, Nat.reduceMul, Nat.reduceEqDiff, Nat.reduceLeDiff, Nat.reduceLT, Int.add_zero, Int.zero_add, List.map_reverse, Nat.reduceBEq, Int.reduceAdd, Int.reduceSub, Int.reduceLT, Int.reduceLE, Int.reduceEq, Int.reduceNeg, Int.reduceToNat, Int.reduceMul, Nat.zero_add, Nat.add_zero, if_true, if_false, reduceIte, decide_true, decide_false, decide_eq_true_eq, Bool.not_true, Bool.not_false, Bool.and_true, Bool.true_and, Bool.and_self, Bool.and_false, Bool.false_and, Bool.or_true, Bool.true_or, Bool.or_false, Bool.false_or, Bool.false_eq_true, Bool.true_eq_false, and_self, and_true, true_and, true_or, or_true, Bool.or_self, Bool.not_not, Function.comp_apply, ne_eq, not_true_eq_false, not_false_eq_true, allL_yes, List.filterMap_cons, List.filterMap_nil, hk, e1, e2, z1, z2, z3, hz, List.flatten_replicate_singleton, List.length_append, List.length_replicate]
end K65
namespace K65
open PySem L2 DL DLT PyProof.Rows
theorem foldl_flt {α β : Type} (p : α → Bool) (f : α → β) : ∀ (xs : List α) (acc : List β), xs.foldl (fun acc x => if p x then acc ++ [f x] else acc) acc = acc ++ (xs.filter p).map f
  | [], acc => by simp
  | x :: xs, acc => by
    rw [List.foldl_cons, foldl_flt p f xs]
    by_cases h : p x = true <;> simp [h]
theorem grown_len {r : List Int} {k : Int} (hm : k ∈ r) : (grown r k).length = r.length - 1 := by rw [grown, List.length_map, (taken_perm hm).length_eq, List.length_erase_of_mem hm]
theorem one_ne {r : List Int} (h : Ok r) {k : Int} (hm : k ∈ r) (hk : (r.length : Int) - 1 ≤ k) : aheadOne r k ≠ [] := fun e => by
  have h1 := (sortR_perm (grown r k ++ List.replicate (k - (grown r k).length).toNat 1)).length_eq
  have h2 := h.1.2 k hm
  have h3 := grown_len hm
  rw [show sortR _ = aheadOne r k from rfl, e, List.length_append, List.length_replicate, List.length_nil] at h1
  omega
theorem mem_sizes {r : List Int} {k : Int} : k ∈ aheadSizes r ↔ k ∈ r ∧ (r.length : Int) - 1 ≤ k := by
  unfold aheadSizes
  rw [List.mem_filter, List.mem_reverse, mem_sortU, decide_eq_true_eq]
theorem e_rows_ahead (r : List Int) (h : Ok r) : F_rows_ahead [.tup (r.map .int)] = some (.v (.tup ((ahead r).map rowD))) := by
  have hl := h.len
  have hs := h.2
  by_cases hn : r = []
  · subst hn; rfl
  · have hu := sortU_len h.1.2 (by omega)
    obtain ⟨s', e1, -, a, b, e2⟩ := forF_rest (t := tgN 2) (b := aheadB) D.int
      (fun rest (acc : List (List Int)) s => acc.length + rest.length ≤ 100 ∧ ∃ a b, s = (⟨[.v (.tup (r.map .int)), .own (acc.map rowD), a, b, .no], []⟩ : S))
      (fun acc k => if decide ((r.length : Int) - 1 ≤ k) then acc ++ [aheadOne r k] else acc) (sortU r).reverse [] ⟨[.v (.tup (r.map .int)), .own [], .no, .no, .no], []⟩ (fun k rest acc s hx hs => by
        obtain ⟨h1, a, b, rfl⟩ := hs
        simp only [List.length_cons] at h1
        have hm : k ∈ r := mem_sortU.mp (List.mem_reverse.mp hx)
        by_cases hk : (r.length : Int) - 1 ≤ k
        · refine ⟨_, .inl (ahead_yes r h (acc.map rowD) k a b hm hk (by rw [List.length_map]; omega)), ?_, .v (.int k), .v (.lst ((grown r k).map .int)), ?_⟩
          · simp only [hk, decide_true, if_true, List.length_append, List.length_cons, List.length_nil]; omega
          · simp only [hk, decide_true, if_true, List.map_append, List.map_cons, List.map_nil]
        · refine ⟨_, .inl (ahead_no r (acc.map rowD) k a b hk), ?_, .v (.int k), b, ?_⟩
          · simp only [hk, decide_false, Bool.false_eq_true, if_false]; omega
          · simp only [hk, decide_false, Bool.false_eq_true, if_false])
      ⟨by simp; omega, _, _, rfl⟩
    subst e2
    rw [foldl_flt, List.nil_append] at e1
    have e0 := e_sizes_of r h.1.2 (by omega)
    have e5 : (itS (callF F_sizes_of (acons (getv 0) anil))) ⟨[.v (.tup (r.map .int)), .own [], .no, .no, .no], []⟩ = some ((sortU r).reverse.map .int, ⟨[.v (.tup (r.map .int)), .own [], .no, .no, .no], []⟩) := by
      simp only [runV, runI, entV, entI, endV, endI, seqs, ifs, retv, reto, setv, seto, asg, drop1, retn, getv, geto, cst, bor, ofO, ofV, asL, seqD, bin2, bin2o, tst, chn, andv, orv, notv, ifv, andt, ort, nott, anil, acons, astar, astarB, mkT, mkL, call1, callo, callF, callFo, callKF, perm, rtD, S.setv, S.setO, szOk, subD_e, ltD_e, leD_e, gtD_e, geD_e, modD_e, fdivD_e, powD_e, addD_i, addD_l, addD_t, mulT_i, mulT_l, mulT_t, mulOk, negF, eqD, neD, isN, notN, ixD_t, ixD_l, ixD_f, lenD_t, lenD_l, lenD_f, lenL, tupD_t, tupD_l, tupD_f, tupL, listD_t, listD_l, listD_f, listL, intD_i, intD_b, absD_e, max2D, min2D, sumL, sumD_t, sumD_l, sortedV_t, sortedV_l, sortedV_f, sortedG_ints, isi_int, isi_bl, isi_tup, isi_lst, isi_str, isi_non, kb_ii, kb_ib, kb_is, kb_it, kb_il, kb_bi, kb_bb, kb_bs, kb_bt, kb_bl, kb_ti, kb_tb, kb_ts, kb_tt, kb_tl, kb_li, kb_lb, kb_ls, kb_lt, kb_ll, kb_si, kb_sb, kb_ss, kb_st, kb_sl, kb_ni, kb_nb, kb_ns, kb_nt, kb_nl, nxt, never, brk, ctn, itS, parA, mnil, mcv, mco, setAll, tgN, tgT, tgsC, tgs0, yes, lcStep, wipeS, wipeL, backS, backL, keepS, intsD_map, boolsD_map, sortRo, revF, revD, callN, callI, ownO, putO, ixO, setIx, appE, Option.bind_some, Option.map_some, Option.bind_none, Option.map_none, List.length_cons, List.length_nil, List.length_map, List.map_cons, List.map_nil, List.cons_append, List.nil_append, List.append_nil, List.replicate_succ, List.replicate_zero, List.reduceReplicate, List.getElem?_cons_zero, List.getElem?_cons_succ, List.getElem?_nil, List.set_cons_zero, List.set_cons_succ, Nat.reduceAdd, Nat.reduceSub, Nat.reduceMul, Nat.reduceEqDiff, Nat.reduceLeDiff, Nat.reduceLT, Int.add_zero, Int.zero_add, List.map_reverse, Nat.reduceBEq, Int.reduceAdd, Int.reduceSub, Int.reduceLT, Int.reduceLE, Int.reduceEq, Int.reduceNeg, Int.reduceToNat, Int.reduceMul, Nat.zero_add, Nat.add_zero, if_true, if_false, reduceIte, decide_true, decide_false, decide_eq_true_eq, Bool.not_true, Bool.not_false, Bool.and_true, Bool.true_and, Bool.and_self, Bool.and_false, Bool.false_and, Bool.or_true, Bool.true_or, Bool.or_false, Bool.false_or, Bool.false_eq_true, Bool.true_eq_false, and_self, and_true, true_and, true_or, or_true, Bool.or_self, Bool.not_not, Function.comp_apply, ne_eq, not_true_eq_false, not_false_eq_true, allL_yes, List.filterMap_cons, List.filterMap_nil, e0]
    unfold aheadB at e1
    have e6 := fors_e e5 e1
    have e7 : ahead r = sortRw ((aheadSizes r).map (aheadOne r)) := by unfold ahead; rw [if_neg hn]
    have e8 := sortedG_rows ((aheadSizes r).map (aheadOne r)) fun x hx => by
      obtain ⟨k, hk, rfl⟩ := List.mem_map.mp hx
      exact one_ne h (mem_sizes.mp hk).1 (mem_sizes.mp hk).2
    rw [e7]
    have e9 := eqB_row0 r
    refine runV_e ⟨[.v (.tup (r.map .int)), .no, .no, .no, .no], []⟩ rfl rfl (o := some (.rt (.tup ((sortRw ((aheadSizes r).map (aheadOne r))).map rowD)) ⟨[.v (.tup (r.map .int)), .own (((aheadSizes r).map (aheadOne r)).map rowD), a, b, .no], []⟩)) ?_ rfl
    unfold g_rows_ahead
    rw [seqs_nx (s' := ⟨[.v (.tup (r.map .int)), .no, .no, .no, .no], []⟩) (by simp only [runV, runI, entV, entI, endV, endI, seqs, ifs, retv, reto, setv, seto, asg, drop1, retn, getv, geto, cst, bor, ofO, ofV, asL, seqD, bin2, bin2o, tst, chn, andv, orv, notv, ifv, andt, ort, nott, anil, acons, astar, astarB, mkT, mkL, call1, callo, callF, callFo, callKF, perm, rtD, S.setv, S.setO, szOk, subD_e, ltD_e, leD_e, gtD_e, geD_e, modD_e, fdivD_e, powD_e, addD_i, addD_l, addD_t, mulT_i, mulT_l, mulT_t, mulOk, negF, eqD, neD, isN, notN, ixD_t, ixD_l, ixD_f, lenD_t, lenD_l, lenD_f, lenL, tupD_t, tupD_l, tupD_f, tupL, listD_t, listD_l, listD_f, listL, intD_i, intD_b, absD_e, max2D, min2D, sumL, sumD_t, sumD_l, sortedV_t, sortedV_l, sortedV_f, sortedG_ints, isi_int, isi_bl, isi_tup, isi_lst, isi_str, isi_non, kb_ii, kb_ib, kb_is, kb_it, kb_il, kb_bi, kb_bb, kb_bs, kb_bt, kb_bl, kb_ti, kb_tb, kb_ts, kb_tt, kb_tl, kb_li, kb_lb, kb_ls, kb_lt, kb_ll, kb_si, kb_sb, kb_ss, kb_st, kb_sl, kb_ni, kb_nb, kb_ns, kb_nt, kb_nl, nxt, never, brk, ctn, itS, parA, mnil, mcv, mco, setAll, tgN, tgT, tgsC, tgs0, yes, lcStep, wipeS, wipeL, backS, backL, keepS, intsD_map, boolsD_map, sortRo, revF, revD, callN, callI, ownO, putO, ixO, setIx, appE, Option.bind_some, Option.map_some, Option.bind_none, Option.map_none, List.length_cons, List.length_nil, List.length_map, List.map_cons, List.map_nil, List.cons_append, List.nil_append, List.append_nil, List.replicate_succ, List.replicate_zero, List.reduceReplicate, List.getElem?_cons_zero, List.getElem?_cons_succ, List.getElem?_nil, List.set_cons_zero, List.set_cons_succ, Nat.reduceAdd, Nat.reduceSub, Nat.reduceMul, Nat.reduceEqDiff, Nat.reduceLeDiff, Nat.reduceLT, Int.add_zero, Int.zero_add, List.map_reverse, Nat.reduceBEq, Int.reduceAdd, Int.reduceSub, Int.reduceLT, Int.reduceLE, Int.reduceEq, Int.reduceNeg, Int.reduceToNat, Int.reduceMul, Nat.zero_add, Nat.add_zero, if_true, if_false, reduceIte, decide_true, decide_false, decide_eq_true_eq, Bool.not_true, Bool.not_false, Bool.and_true, Bool.true_and, Bool.and_self, Bool.and_false, Bool.false_and, Bool.or_true, Bool.true_or, Bool.or_false, Bool.false_or, Bool.false_eq_true, Bool.true_eq_false, and_self, and_true, true_and, true_or, or_true, Bool.or_self, Bool.not_not, Function.comp_apply, ne_eq, not_true_eq_false, not_false_eq_true, allL_yes, List.filterMap_cons, List.filterMap_nil, e9, hn]), seqs_nx (s' := ⟨[.v (.tup (r.map .int)), .own [], .no, .no, .no], []⟩) (by simp only [runV, runI, entV, entI, endV, endI, seqs, ifs, retv, reto, setv, seto, asg, drop1, retn, getv, geto, cst, bor, ofO, ofV, asL, seqD, bin2, bin2o, tst, chn, andv, orv, notv, ifv, andt, ort, nott, anil, acons, astar, astarB, mkT, mkL, call1, callo, callF, callFo, callKF, perm, rtD, S.setv, S.setO, szOk, subD_e, ltD_e, leD_e, gtD_e, geD_e, modD_e, fdivD_e, powD_e, addD_i, addD_l, addD_t, mulT_i, mulT_l, mulT_t, mulOk, negF, eqD, neD, isN, notN, ixD_t, ixD_l, ixD_f, lenD_t, lenD_l, lenD_f, lenL, tupD_t, tupD_l, tupD_f, tupL, listD_t, listD_l, listD_f, listL, intD_i, intD_b, absD_e, max2D, min2D, sumL, sumD_t, sumD_l, sortedV_t, sortedV_l, sortedV_f, sortedG_ints, isi_int, isi_bl, isi_tup, isi_lst, isi_str, isi_non, kb_ii, kb_ib, kb_is, kb_it, kb_il, kb_bi, kb_bb, kb_bs, kb_bt, kb_bl, kb_ti, kb_tb, kb_ts, kb_tt, kb_tl, kb_li, kb_lb, kb_ls, kb_lt, kb_ll, kb_si, kb_sb, kb_ss, kb_st, kb_sl, kb_ni, kb_nb, kb_ns, kb_nt, kb_nl, nxt, never, brk, ctn, itS, parA, mnil, mcv, mco, setAll, tgN, tgT, tgsC, tgs0, yes, lcStep, wipeS, wipeL, backS, backL, keepS, intsD_map, boolsD_map, sortRo, revF, revD, callN, callI, ownO, putO, ixO, setIx, appE, Option.bind_some, Option.map_some, Option.bind_none, Option.map_none, List.length_cons, List.length_nil, List.length_map, List.map_cons, List.map_nil, List.cons_append, List.nil_append, List.append_nil, List.replicate_succ, List.replicate_zero, List.reduceReplicate, List.getElem?_cons_zero, List.getElem?_cons_succ, List.getElem?_nil, List.set_cons_zero, List.set_cons_succ, Nat.reduceAdd, Nat.reduceSub, Nat.reduceMul, Nat.reduceEqDiff, Nat.reduceLeDiff, Nat.reduceLT, Int.add_zero, Int.zero_add, List.map_reverse, Nat.reduceBEq, Int.reduceAdd, Int.reduceSub, Int.reduceLT, Int.reduceLE, Int.reduceEq, Int.reduceNeg, Int.reduceToNat, Int.reduceMul, Nat.zero_add, Nat.add_zero, if_true, if_false, reduceIte, decide_true, decide_false, decide_eq_true_eq, Bool.not_true, Bool.not_false, Bool.and_true, Bool.true_and, Bool.and_self, Bool.and_false, Bool.false_and, Bool.or_true, Bool.true_or, Bool.or_false, Bool.false_or, Bool.false_eq_true, Bool.true_eq_false, and_self, and_true, true_and, true_or, or_true, Bool.or_self, Bool.not_not, Function.comp_apply, ne_eq, not_true_eq_false, not_false_eq_true, allL_yes, List.filterMap_cons, List.filterMap_nil]), seqs_nx e6]
    unfold aheadSizes at e8 ⊢
    simp only [runV, runI, entV, entI, endV, endI, seqs, ifs, retv, reto, setv, seto, asg, drop1, retn, getv, geto, cst, bor, ofO, ofV, asL, seqD, bin2, bin2o, tst, chn, andv, orv, notv, ifv, andt, ort, nott, anil, acons, astar, astarB, mkT, mkL, call1, callo, callF, callFo, callKF, perm, rtD, S.setv, S.setO, szOk, subD_e, ltD_e, leD_e, gtD_e, geD_e, modD_e, fdivD_e, powD_e, addD_i, addD_l, addD_t, mulT_i, mulT_l, mulT_t, mulOk, negF, eqD, neD, isN, notN, ixD_t, ixD_l, ixD_f, lenD_t, lenD_l, lenD_f, lenL, tupD_t, tupD_l, tupD_f, tupL, listD_t, listD_l, listD_f, listL, intD_i, intD_b, absD_e, max2D, min2D, sumL, sumD_t, sumD_l, sortedV_t, sortedV_l, sortedV_f, sortedG_ints, isi_int, isi_bl, isi_tup, isi_lst, isi_str, isi_non, kb_ii, kb_ib, kb_is, kb_it, kb_il, kb_bi, kb_bb, kb_bs, kb_bt, kb_bl, kb_ti, kb_tb, kb_ts, kb_tt, kb_tl, kb_li, kb_lb, kb_ls, kb_lt, kb_ll, kb_si, kb_sb, kb_ss, kb_st, kb_sl, kb_ni, kb_nb, kb_ns, kb_nt, kb_nl, nxt, never, brk, ctn, itS, parA, mnil, mcv, mco, setAll, tgN, tgT, tgsC, tgs0, yes, lcStep, wipeS, wipeL, backS, backL, keepS, intsD_map, boolsD_map, sortRo, revF, revD, callN, callI, ownO, putO, ixO, setIx, appE, Option.bind_some, Option.map_some, Option.bind_none, Option.map_none, List.length_cons, List.length_nil, List.length_map, List.map_cons, List.map_nil, List.cons_append, List.nil_append, List.append_nil, List.replicate_succ, List.replicate_zero, List.reduceReplicate, List.getElem?_cons_zero, List.getElem?_cons_succ, List.getElem?_nil, List.set_cons_zero, List.set_cons_succ, Nat.reduceAdd, Nat.reduceSub, Nat.reduceMul, Nat.reduceEqDiff, Nat.reduceLeDiff, Nat.reduceLT, Int.add_zero, Int.zero_add, List.map_reverse, Nat.reduceBEq, Int.reduceAdd, Int.reduceSub, Int.reduceLT, Int.reduceLE, Int.reduceEq, Int.reduceNeg, Int.reduceToNat, Int.reduceMul, Nat.zero_add, Nat.add_zero, if_true, if_false, reduceIte, decide_true, decide_false, decide_eq_true_eq, Bool.not_true, Bool.not_false, Bool.and_true, Bool.true_and, Bool.and_self, Bool.and_false, Bool.false_and, Bool.or_true, Bool.true_or, Bool.or_false, Bool.false_or, Bool.false_eq_true, Bool.true_eq_false, and_self, and_true, true_and, true_or, or_true, Bool.or_self, Bool.not_not, Function.comp_apply, ne_eq, not_true_eq_false, not_false_eq_true, allL_yes, List.filterMap_cons, List.filterMap_nil, e8]
theorem e_dealt_from (r : List Int) (h : Ok r) : F_dealt_from [.tup (r.map .int)] = some (.v (.tup ((ahead r).map rowD))) := by
  simp only [F_dealt_from, g_dealt_from, runV, runI, entV, entI, endV, endI, seqs, ifs, retv, reto, setv, seto, asg, drop1, retn, getv, geto, cst, bor, ofO, ofV, asL, seqD, bin2, bin2o, tst, chn, andv, orv, notv, ifv, andt, ort, nott, anil, acons, astar, astarB, mkT, mkL, call1, callo, callF, callFo, callKF, perm, rtD, S.setv, S.setO, szOk, subD_e, ltD_e, leD_e, gtD_e, geD_e, modD_e, fdivD_e, powD_e, addD_i, addD_l, addD_t, mulT_i, mulT_l, mulT_t, mulOk, negF, eqD, neD, isN, notN, ixD_t, ixD_l, ixD_f, lenD_t, lenD_l, lenD_f, lenL, tupD_t, tupD_l, tupD_f, tupL, listD_t, listD_l, listD_f, listL, intD_i, intD_b, absD_e, max2D, min2D, sumL, sumD_t, sumD_l, sortedV_t, sortedV_l, sortedV_f, sortedG_ints, isi_int, isi_bl, isi_tup, isi_lst, isi_str, isi_non, kb_ii, kb_ib, kb_is, kb_it, kb_il, kb_bi, kb_bb, kb_bs, kb_bt, kb_bl, kb_ti, kb_tb, kb_ts, kb_tt, kb_tl, kb_li, kb_lb, kb_ls, kb_lt, kb_ll, kb_si, kb_sb, kb_ss, kb_st, kb_sl, kb_ni, kb_nb, kb_ns, kb_nt, kb_nl, nxt, never, brk, ctn, itS, parA, mnil, mcv, mco, setAll, tgN, tgT, tgsC, tgs0, yes, lcStep, wipeS, wipeL, backS, backL, keepS, intsD_map, boolsD_map, sortRo, revF, revD, callN, callI, ownO, putO, ixO, setIx, appE, Option.bind_some, Option.map_some, Option.bind_none, Option.map_none, List.length_cons, List.length_nil, List.length_map, List.map_cons, List.map_nil, List.cons_append, List.nil_append, List.append_nil, List.replicate_succ, List.replicate_zero, List.reduceReplicate, List.getElem?_cons_zero, List.getElem?_cons_succ, List.getElem?_nil, List.set_cons_zero, List.set_cons_succ, Nat.reduceAdd, Nat.reduceSub, Nat.reduceMul, Nat.reduceEqDiff, Nat.reduceLeDiff, Nat.reduceLT, Int.add_zero, Int.zero_add, List.map_reverse, Nat.reduceBEq, Int.reduceAdd, Int.reduceSub, Int.reduceLT, Int.reduceLE, Int.reduceEq, Int.reduceNeg, Int.reduceToNat, Int.reduceMul, Nat.zero_add, Nat.add_zero, if_true, if_false, reduceIte, decide_true, decide_false, decide_eq_true_eq, Bool.not_true, Bool.not_false, Bool.and_true, Bool.true_and, Bool.and_self, Bool.and_false, Bool.false_and, Bool.or_true, Bool.true_or, Bool.or_false, Bool.false_or, Bool.false_eq_true, Bool.true_eq_false, and_self, and_true, true_and, true_or, or_true, Bool.or_self, Bool.not_not, Function.comp_apply, ne_eq, not_true_eq_false, not_false_eq_true, allL_yes, List.filterMap_cons, List.filterMap_nil, e_check_row r h, e_rows_ahead r h]
theorem e_is_garden (r : List Int) (h : Ok r) : F_is_garden [.tup (r.map .int)] = some (.v (.bl (decide (ahead r = [])))) := by
  have e := eqB_rows (ahead r) []
  rw [List.map_nil] at e
  simp only [F_is_garden, g_is_garden, runV, runI, entV, entI, endV, endI, seqs, ifs, retv, reto, setv, seto, asg, drop1, retn, getv, geto, cst, bor, ofO, ofV, asL, seqD, bin2, bin2o, tst, chn, andv, orv, notv, ifv, andt, ort, nott, anil, acons, astar, astarB, mkT, mkL, call1, callo, callF, callFo, callKF, perm, rtD, S.setv, S.setO, szOk, subD_e, ltD_e, leD_e, gtD_e, geD_e, modD_e, fdivD_e, powD_e, addD_i, addD_l, addD_t, mulT_i, mulT_l, mulT_t, mulOk, negF, eqD, neD, isN, notN, ixD_t, ixD_l, ixD_f, lenD_t, lenD_l, lenD_f, lenL, tupD_t, tupD_l, tupD_f, tupL, listD_t, listD_l, listD_f, listL, intD_i, intD_b, absD_e, max2D, min2D, sumL, sumD_t, sumD_l, sortedV_t, sortedV_l, sortedV_f, sortedG_ints, isi_int, isi_bl, isi_tup, isi_lst, isi_str, isi_non, kb_ii, kb_ib, kb_is, kb_it, kb_il, kb_bi, kb_bb, kb_bs, kb_bt, kb_bl, kb_ti, kb_tb, kb_ts, kb_tt, kb_tl, kb_li, kb_lb, kb_ls, kb_lt, kb_ll, kb_si, kb_sb, kb_ss, kb_st, kb_sl, kb_ni, kb_nb, kb_ns, kb_nt, kb_nl, nxt, never, brk, ctn, itS, parA, mnil, mcv, mco, setAll, tgN, tgT, tgsC, tgs0, yes, lcStep, wipeS, wipeL, backS, backL, keepS, intsD_map, boolsD_map, sortRo, revF, revD, callN, callI, ownO, putO, ixO, setIx, appE, Option.bind_some, Option.map_some, Option.bind_none, Option.map_none, List.length_cons, List.length_nil, List.length_map, List.map_cons, List.map_nil, List.cons_append, List.nil_append, List.append_nil, List.replicate_succ, List.replicate_zero, List.reduceReplicate, List.getElem?_cons_zero, List.getElem?_cons_succ, List.getElem?_nil, List.set_cons_zero, List.set_cons_succ, Nat.reduceAdd, Nat.reduceSub, Nat.reduceMul, Nat.reduceEqDiff, Nat.reduceLeDiff, Nat.reduceLT, Int.add_zero, Int.zero_add, List.map_reverse, Nat.reduceBEq, Int.reduceAdd, Int.reduceSub, Int.reduceLT, Int.reduceLE, Int.reduceEq, Int.reduceNeg, Int.reduceToNat, Int.reduceMul, Nat.zero_add, Nat.add_zero, if_true, if_false, reduceIte, decide_true, decide_false, decide_eq_true_eq, Bool.not_true, Bool.not_false, Bool.and_true, Bool.true_and, Bool.and_self, Bool.and_false, Bool.false_and, Bool.or_true, Bool.true_or, Bool.or_false, Bool.false_or, Bool.false_eq_true, Bool.true_eq_false, and_self, and_true, true_and, true_or, or_true, Bool.or_self, Bool.not_not, Function.comp_apply, ne_eq, not_true_eq_false, not_false_eq_true, allL_yes, List.filterMap_cons, List.filterMap_nil, e_check_row r h, e_rows_ahead r h, e]
def rankP (r : List Int) : Int := if r = [] then 0 else r.getD 0 0 - r.length
theorem e_rank_of (r : List Int) (h : Ok r) : F_rank_of [.tup (r.map .int)] = some (.v (.int (rankP r))) := by
  have e := eqB_row0 r
  unfold rankP
  by_cases hn : r = []
  · subst hn; rfl
  · have e2 := atI_ints r 0 (by omega) (by have := List.length_pos_iff.mpr hn; omega)
    rw [Int.toNat_zero] at e2
    simp only [F_rank_of, g_rank_of, runV, runI, entV, entI, endV, endI, seqs, ifs, retv, reto, setv, seto, asg, drop1, retn, getv, geto, cst, bor, ofO, ofV, asL, seqD, bin2, bin2o, tst, chn, andv, orv, notv, ifv, andt, ort, nott, anil, acons, astar, astarB, mkT, mkL, call1, callo, callF, callFo, callKF, perm, rtD, S.setv, S.setO, szOk, subD_e, ltD_e, leD_e, gtD_e, geD_e, modD_e, fdivD_e, powD_e, addD_i, addD_l, addD_t, mulT_i, mulT_l, mulT_t, mulOk, negF, eqD, neD, isN, notN, ixD_t, ixD_l, ixD_f, lenD_t, lenD_l, lenD_f, lenL, tupD_t, tupD_l, tupD_f, tupL, listD_t, listD_l, listD_f, listL, intD_i, intD_b, absD_e, max2D, min2D, sumL, sumD_t, sumD_l, sortedV_t, sortedV_l, sortedV_f, sortedG_ints, isi_int, isi_bl, isi_tup, isi_lst, isi_str, isi_non, kb_ii, kb_ib, kb_is, kb_it, kb_il, kb_bi, kb_bb, kb_bs, kb_bt, kb_bl, kb_ti, kb_tb, kb_ts, kb_tt, kb_tl, kb_li, kb_lb, kb_ls, kb_lt, kb_ll, kb_si, kb_sb, kb_ss, kb_st, kb_sl, kb_ni, kb_nb, kb_ns, kb_nt, kb_nl, nxt, never, brk, ctn, itS, parA, mnil, mcv, mco, setAll, tgN, tgT, tgsC, tgs0, yes, lcStep, wipeS, wipeL, backS, backL, keepS, intsD_map, boolsD_map, sortRo, revF, revD, callN, callI, ownO, putO, ixO, setIx, appE, Option.bind_some, Option.map_some, Option.bind_none, Option.map_none, List.length_cons, List.length_nil, List.length_map, List.map_cons, List.map_nil, List.cons_append, List.nil_append, List.append_nil, List.replicate_succ, List.replicate_zero, List.reduceReplicate, List.getElem?_cons_zero, List.getElem?_cons_succ, List.getElem?_nil, List.set_cons_zero, List.set_cons_succ, Nat.reduceAdd, Nat.reduceSub, Nat.reduceMul, Nat.reduceEqDiff, Nat.reduceLeDiff, Nat.reduceLT, Int.add_zero, Int.zero_add, List.map_reverse, Nat.reduceBEq, Int.reduceAdd, Int.reduceSub, Int.reduceLT, Int.reduceLE, Int.reduceEq, Int.reduceNeg, Int.reduceToNat, Int.reduceMul, Nat.zero_add, Nat.add_zero, if_true, if_false, reduceIte, decide_true, decide_false, decide_eq_true_eq, Bool.not_true, Bool.not_false, Bool.and_true, Bool.true_and, Bool.and_self, Bool.and_false, Bool.false_and, Bool.or_true, Bool.true_or, Bool.or_false, Bool.false_or, Bool.false_eq_true, Bool.true_eq_false, and_self, and_true, true_and, true_or, or_true, Bool.or_self, Bool.not_not, Function.comp_apply, ne_eq, not_true_eq_false, not_false_eq_true, allL_yes, List.filterMap_cons, List.filterMap_nil, e, hn, e2]
theorem e_rank (r : List Int) (h : Ok r) : F_rank [.tup (r.map .int)] = some (.v (.int (rankP r))) := by
  simp only [F_rank, g_rank, runV, runI, entV, entI, endV, endI, seqs, ifs, retv, reto, setv, seto, asg, drop1, retn, getv, geto, cst, bor, ofO, ofV, asL, seqD, bin2, bin2o, tst, chn, andv, orv, notv, ifv, andt, ort, nott, anil, acons, astar, astarB, mkT, mkL, call1, callo, callF, callFo, callKF, perm, rtD, S.setv, S.setO, szOk, subD_e, ltD_e, leD_e, gtD_e, geD_e, modD_e, fdivD_e, powD_e, addD_i, addD_l, addD_t, mulT_i, mulT_l, mulT_t, mulOk, negF, eqD, neD, isN, notN, ixD_t, ixD_l, ixD_f, lenD_t, lenD_l, lenD_f, lenL, tupD_t, tupD_l, tupD_f, tupL, listD_t, listD_l, listD_f, listL, intD_i, intD_b, absD_e, max2D, min2D, sumL, sumD_t, sumD_l, sortedV_t, sortedV_l, sortedV_f, sortedG_ints, isi_int, isi_bl, isi_tup, isi_lst, isi_str, isi_non, kb_ii, kb_ib, kb_is, kb_it, kb_il, kb_bi, kb_bb, kb_bs, kb_bt, kb_bl, kb_ti, kb_tb, kb_ts, kb_tt, kb_tl, kb_li, kb_lb, kb_ls, kb_lt, kb_ll, kb_si, kb_sb, kb_ss, kb_st, kb_sl, kb_ni, kb_nb, kb_ns, kb_nt, kb_nl, nxt, never, brk, ctn, itS, parA, mnil, mcv, mco, setAll, tgN, tgT, tgsC, tgs0, yes, lcStep, wipeS, wipeL, backS, backL, keepS, intsD_map, boolsD_map, sortRo, revF, revD, callN, callI, ownO, putO, ixO, setIx, appE, Option.bind_some, Option.map_some, Option.bind_none, Option.map_none, List.length_cons, List.length_nil, List.length_map, List.map_cons, List.map_nil, List.cons_append, List.nil_append, List.append_nil, List.replicate_succ, List.replicate_zero, List.reduceReplicate, List.getElem?_cons_zero, List.getElem?_cons_succ, List.getElem?_nil, List.set_cons_zero, List.set_cons_succ, Nat.reduceAdd, Nat.reduceSub, Nat.reduceMul, Nat.reduceEqDiff, Nat.reduceLeDiff, Nat.reduceLT, Int.add_zero, Int.zero_add, List.map_reverse, Nat.reduceBEq, Int.reduceAdd, Int.reduceSub, Int.reduceLT, Int.reduceLE, Int.reduceEq, Int.reduceNeg, Int.reduceToNat, Int.reduceMul, Nat.zero_add, Nat.add_zero, if_true, if_false, reduceIte, decide_true, decide_false, decide_eq_true_eq, Bool.not_true, Bool.not_false, Bool.and_true, Bool.true_and, Bool.and_self, Bool.and_false, Bool.false_and, Bool.or_true, Bool.true_or, Bool.or_false, Bool.false_or, Bool.false_eq_true, Bool.true_eq_false, and_self, and_true, true_and, true_or, or_true, Bool.or_self, Bool.not_not, Function.comp_apply, ne_eq, not_true_eq_false, not_false_eq_true, allL_yes, List.filterMap_cons, List.filterMap_nil, e_check_row r h, e_rank_of r h]
end K65
namespace K65
open PySem L2 DL DLT PyProof.Rows
theorem Ok.ne_len {r : List Int} (hn : r ≠ []) : 1 ≤ r.length := List.length_pos_iff.mpr hn
theorem Ok.max {r : List Int} (h : Ok r) : ∀ x ∈ r, x ≤ r.getD 0 0 := fun x hx => by
  cases r with
  | nil => simp at hx
  | cons y r =>
    rcases List.mem_cons.mp hx with e | e
    · subst e; exact Int.le_refl _
    · exact h.1.le x e
theorem head_mem {r : List Int} (hn : r ≠ []) : r.getD 0 0 ∈ r := by
  cases r with
  | nil => exact absurd rfl hn
  | cons y r => exact List.mem_cons_self
theorem rank_turn {r : List Int} (h : Ok r) : rankP (turn r) = - rankP r := by
  unfold rankP
  by_cases hn : r = []
  · subst hn; rfl
  · have h1 := turn_len h.1
    have h2 := turn_head h.1 hn
    have h3 := h.1.2 _ (head_mem hn)
    have h4 : turn r ≠ [] := fun e => by
      rw [e] at h1
      have h1 : (0 : Int) = r.getD 0 0 := h1
      omega
    rw [if_neg hn, if_neg h4, h2, h1]
    omega
theorem sortRw_nil {l : List (List Int)} : sortRw l = [] ↔ l = [] := by
  refine ⟨fun h => ?_, fun h => by subst h; rfl⟩
  have := (sortRw_perm l).length_eq
  rw [h] at this
  exact List.length_eq_zero_iff.mp this.symm
theorem garden_iff {r : List Int} (h : Ok r) : ahead r = [] ↔ rankP r ≤ -2 := by
  unfold ahead rankP
  by_cases hn : r = []
  · subst hn; simp
  · rw [if_neg hn, if_neg hn, sortRw_nil, List.map_eq_nil_iff]
    refine ⟨fun e => ?_, fun e => ?_⟩
    · have : ¬ r.getD 0 0 ∈ aheadSizes r := by rw [e]; simp
      rw [mem_sizes] at this
      have h2 : ¬ (r.length : Int) - 1 ≤ r.getD 0 0 := fun z => this ⟨head_mem hn, z⟩
      omega
    · refine List.eq_nil_iff_forall_not_mem.mpr fun k hk => ?_
      have ⟨h1, h2⟩ := mem_sizes.mp hk
      have := h.max k h1
      omega
theorem ahead_len {r : List Int} : (ahead r).length = if r = [] then 1 else ((sortU r).filter fun k => decide ((r.length : Int) - 1 ≤ k)).length := by
  unfold ahead
  by_cases hn : r = []
  · rw [if_pos hn, if_pos hn]; rfl
  · rw [if_neg hn, if_neg hn, (sortRw_perm _).length_eq, List.length_map, aheadSizes, List.filter_reverse, List.length_reverse]
theorem sortRw_idem (l : List (List Int)) : sortRw (sortRw l) = sortRw l := (sortRw_uniq (l := sortRw l) (.refl _) (sortRw_sorted l)).symm
theorem ahead_in_order {r : List Int} (h : Ok r) : sortedG ((ahead r).map rowD) = some ((ahead r).map rowD) := by
  unfold ahead
  by_cases hn : r = []
  · rw [if_pos hn]; rfl
  · rw [if_neg hn, sortedG_rows _ fun x hx => ?_, sortRw_idem]
    obtain ⟨k, hk, rfl⟩ := List.mem_map.mp ((sortRw_perm _).mem_iff.mp hx)
    exact one_ne h (mem_sizes.mp hk).1 (mem_sizes.mp hk).2
theorem grown_perm {r : List Int} {k : Int} (h : k ∈ r) : (grown r k).Perm ((r.erase k).map fun p => p + 1) := (taken_perm h).map _
theorem sum_map_add : ∀ l : List Int, (l.map fun p => p + 1).sum = l.sum + l.length
  | [] => by simp
  | x :: l => by rw [List.map_cons, List.sum_cons, List.sum_cons, sum_map_add l, List.length_cons]; omega
theorem flt_all {l : List Int} {p : Int → Bool} (h : ∀ x ∈ l, p x = true) : l.filter p = l := List.filter_eq_self.mpr h
theorem one_ok {r : List Int} (h : Ok r) {k : Int} (hm : k ∈ r) (hk : (r.length : Int) - 1 ≤ k) : Ok (aheadOne r k) ∧ (aheadOne r k).sum = r.sum ∧ next (aheadOne r k) = r := by
  have hp := sortR_perm (grown r k ++ List.replicate (k - (grown r k).length).toNat 1)
  have hg := grown_len hm
  have h1 := h.1.2 k hm
  have hpos : 0 < r.length := List.length_pos_of_mem hm
  have e1 : r.Perm (k :: r.erase k) := List.perm_cons_erase hm
  have e2 := sum_perm e1
  rw [List.sum_cons] at e2
  have g2 : ∀ x ∈ grown r k, 2 ≤ x := fun x hx => by
    obtain ⟨p, hp, rfl⟩ := List.mem_map.mp ((grown_perm hm).mem_iff.mp hx)
    have := h.1.2 p (List.mem_of_mem_erase hp)
    omega
  have gs : (grown r k).sum = (r.erase k).sum + (r.erase k).length := by rw [sum_perm (grown_perm hm), sum_map_add]
  have el : (r.erase k).length = r.length - 1 := List.length_erase_of_mem hm
  have hs : (aheadOne r k).sum = r.sum := by
    rw [show aheadOne r k = sortR _ from rfl, sum_perm hp, sum_app', gs, sum_rep, hg, el]
    omega
  refine ⟨⟨sortR_row fun x hx => ?_, by rw [hs]; exact h.2⟩, hs, ?_⟩
  · rcases List.mem_append.mp hx with e | e
    · have := g2 x e; omega
    · have := List.eq_of_mem_replicate e; omega
  · have hn := one_ne h hm hk
    have hlen : ((aheadOne r k).length : Int) = k := by
      rw [show aheadOne r k = sortR _ from rfl, hp.length_eq, List.length_append, List.length_replicate, hg]
      omega
    rw [next, if_neg hn, hlen]
    have hf : ((aheadOne r k).filter fun p => decide (1 < p)).Perm (grown r k) := by
      have := hp.filter fun p => decide (1 < p)
      rw [List.filter_append, flt_all (l := grown r k) fun x hx => by have := g2 x hx; exact decide_eq_true (by omega)] at this
      have z : (List.replicate (k - (grown r k).length).toNat (1 : Int)).filter (fun p => decide (1 < p)) = [] := List.filter_eq_nil_iff.mpr fun x hx => by
        have := List.eq_of_mem_replicate hx
        subst this; decide
      rw [z, List.append_nil] at this
      exact this
    have hm2 : (((aheadOne r k).filter fun p => decide (1 < p)).map fun p => p - 1).Perm (r.erase k) := by
      refine (hf.map _).trans (((grown_perm hm).map _).trans ?_)
      rw [List.map_map]
      have : ((fun p : Int => p - 1) ∘ fun p => p + 1) = id := by funext p; show p + 1 - 1 = p; omega
      rw [this, List.map_id]
    rw [sortR_of_perm ((hm2.cons k).trans e1.symm), sortR_self h.1.1]
theorem ahead_back {r : List Int} (h : Ok r) : ∀ o ∈ ahead r, Ok o ∧ o.sum = r.sum ∧ next o = r := fun o ho => by
  unfold ahead at ho
  by_cases hn : r = []
  · subst hn
    rw [if_pos rfl] at ho
    have := List.mem_singleton.mp ho
    subst this
    exact ⟨h, rfl, rfl⟩
  · rw [if_neg hn] at ho
    obtain ⟨k, hk, rfl⟩ := List.mem_map.mp ((sortRw_perm _).mem_iff.mp ho)
    exact one_ok h (mem_sizes.mp hk).1 (mem_sizes.mp hk).2
theorem ones_perm {r : List Int} (h : ∀ x ∈ r, 1 ≤ x) : ((r.filter fun p => decide (1 < p)) ++ List.replicate (r.length - (r.filter fun p => decide (1 < p)).length) 1).Perm r := by
  have h1 := List.filter_append_perm (fun p : Int => decide (1 < p)) r
  have h2 : (r.filter fun x => !decide (1 < x)) = List.replicate (r.length - (r.filter fun p => decide (1 < p)).length) 1 := by
    refine List.eq_replicate_iff.mpr ⟨?_, fun b hb => ?_⟩
    · have := h1.length_eq
      rw [List.length_append] at this
      omega
    · have ⟨a, c⟩ := List.mem_filter.mp hb
      have := h b a
      have c2 : ¬ 1 < b := by simpa using c
      omega
  rw [← h2]
  exact h1
theorem next_back {r : List Int} (h : Ok r) : -1 ≤ rankP (next r) ∧ r ∈ ahead (next r) := by
  by_cases hn : r = []
  · subst hn; decide +kernel
  · have hd := (next_ok h).1
    generalize hD : next r = d at *
    have e : d = sortR ((r.length : Int) :: (r.filter fun p => decide (1 < p)).map fun p => p - 1) := by rw [← hD, next, if_neg hn]
    have p0 := sortR_perm ((r.length : Int) :: (r.filter fun p => decide (1 < p)).map fun p => p - 1)
    rw [← e] at p0
    have hm : (r.length : Int) ∈ d := p0.mem_iff.mpr List.mem_cons_self
    have hdn : d ≠ [] := fun z => by rw [z] at hm; simp at hm
    have hl := p0.length_eq
    rw [List.length_cons, List.length_map] at hl
    have hfl := List.length_filter_le (fun p : Int => decide (1 < p)) r
    have hx := hd.max _ hm
    refine ⟨by rw [rankP, if_neg hdn]; omega, ?_⟩
    rw [ahead, if_neg hdn]
    have hk : (d.length : Int) - 1 ≤ r.length := by omega
    refine (sortRw_perm _).mem_iff.mpr (List.mem_map.mpr ⟨r.length, mem_sizes.mpr ⟨hm, hk⟩, ?_⟩)
    have hg := grown_len hm
    have pe : (d.erase (r.length : Int)).Perm ((r.filter fun p => decide (1 < p)).map fun p => p - 1) := by
      have := p0.erase (r.length : Int)
      rwa [List.erase_cons_head] at this
    have pg : (grown d r.length).Perm (r.filter fun p => decide (1 < p)) := by
      refine (grown_perm hm).trans ((pe.map _).trans ?_)
      rw [List.map_map]
      have : ((fun p : Int => p + 1) ∘ fun p => p - 1) = id := by funext p; show p - 1 + 1 = p; omega
      rw [this, List.map_id]
    rw [aheadOne, hg]
    have hc : ((r.length : Int) - ((d.length - 1 : Nat) : Int)).toNat = r.length - (r.filter fun p => decide (1 < p)).length := by omega
    rw [hc, sortR_of_perm ((pg.append_right _).trans (ones_perm h.1.2)), sortR_self h.1.1]
end K65
namespace K65
open PySem L2 DL DLT PyProof.Rows
theorem e_alike_int (n : Nat) (i j : Int) : F__law_alike (n + 1) [.int i, .int j] = some (.v (.bl (decide (i = j)))) := by
  simp only [F__law_alike, g__law_alike, runV, runI, entV, entI, endV, endI, seqs, ifs, retv, reto, setv, seto, asg, drop1, retn, getv, geto, cst, bor, ofO, ofV, asL, seqD, bin2, bin2o, tst, chn, andv, orv, notv, ifv, andt, ort, nott, anil, acons, astar, astarB, mkT, mkL, call1, callo, callF, callFo, callKF, perm, rtD, S.setv, S.setO, szOk, subD_e, ltD_e, leD_e, gtD_e, geD_e, modD_e, fdivD_e, powD_e, addD_i, addD_l, addD_t, mulT_i, mulT_l, mulT_t, mulOk, negF, eqD, neD, isN, notN, ixD_t, ixD_l, ixD_f, lenD_t, lenD_l, lenD_f, lenL, tupD_t, tupD_l, tupD_f, tupL, listD_t, listD_l, listD_f, listL, intD_i, intD_b, absD_e, max2D, min2D, sumL, sumD_t, sumD_l, sortedV_t, sortedV_l, sortedV_f, sortedG_ints, isi_int, isi_bl, isi_tup, isi_lst, isi_str, isi_non, kb_ii, kb_ib, kb_is, kb_it, kb_il, kb_bi, kb_bb, kb_bs, kb_bt, kb_bl, kb_ti, kb_tb, kb_ts, kb_tt, kb_tl, kb_li, kb_lb, kb_ls, kb_lt, kb_ll, kb_si, kb_sb, kb_ss, kb_st, kb_sl, kb_ni, kb_nb, kb_ns, kb_nt, kb_nl, nxt, never, brk, ctn, itS, parA, mnil, mcv, mco, setAll, tgN, tgT, tgsC, tgs0, yes, lcStep, wipeS, wipeL, backS, backL, keepS, intsD_map, boolsD_map, sortRo, revF, revD, callN, callI, ownO, putO, ixO, setIx, appE, Option.bind_some, Option.map_some, Option.bind_none, Option.map_none, List.length_cons, List.length_nil, List.length_map, List.map_cons, List.map_nil, List.cons_append, List.nil_append, List.append_nil, List.replicate_succ, List.replicate_zero, List.reduceReplicate, List.getElem?_cons_zero, List.getElem?_cons_succ, List.getElem?_nil, List.set_cons_zero, List.set_cons_succ, Nat.reduceAdd, Nat.reduceSub, Nat.reduceMul, Nat.reduceEqDiff, Nat.reduceLeDiff, Nat.reduceLT, Int.add_zero, Int.zero_add, List.map_reverse, Nat.reduceBEq, Int.reduceAdd, Int.reduceSub, Int.reduceLT, Int.reduceLE, Int.reduceEq, Int.reduceNeg, Int.reduceToNat, Int.reduceMul, Nat.zero_add, Nat.add_zero, if_true, if_false, reduceIte, decide_true, decide_false, decide_eq_true_eq, Bool.not_true, Bool.not_false, Bool.and_true, Bool.true_and, Bool.and_self, Bool.and_false, Bool.false_and, Bool.or_true, Bool.true_or, Bool.or_false, Bool.false_or, Bool.false_eq_true, Bool.true_eq_false, and_self, and_true, true_and, true_or, or_true, Bool.or_self, Bool.not_not, Function.comp_apply, ne_eq, not_true_eq_false, not_false_eq_true, allL_yes, List.filterMap_cons, List.filterMap_nil, eqB_int]
theorem e_alike_bl (n : Nat) (i j : Bool) : F__law_alike (n + 1) [.bl i, .bl j] = some (.v (.bl (decide (i = j)))) := by
  simp only [F__law_alike, g__law_alike, runV, runI, entV, entI, endV, endI, seqs, ifs, retv, reto, setv, seto, asg, drop1, retn, getv, geto, cst, bor, ofO, ofV, asL, seqD, bin2, bin2o, tst, chn, andv, orv, notv, ifv, andt, ort, nott, anil, acons, astar, astarB, mkT, mkL, call1, callo, callF, callFo, callKF, perm, rtD, S.setv, S.setO, szOk, subD_e, ltD_e, leD_e, gtD_e, geD_e, modD_e, fdivD_e, powD_e, addD_i, addD_l, addD_t, mulT_i, mulT_l, mulT_t, mulOk, negF, eqD, neD, isN, notN, ixD_t, ixD_l, ixD_f, lenD_t, lenD_l, lenD_f, lenL, tupD_t, tupD_l, tupD_f, tupL, listD_t, listD_l, listD_f, listL, intD_i, intD_b, absD_e, max2D, min2D, sumL, sumD_t, sumD_l, sortedV_t, sortedV_l, sortedV_f, sortedG_ints, isi_int, isi_bl, isi_tup, isi_lst, isi_str, isi_non, kb_ii, kb_ib, kb_is, kb_it, kb_il, kb_bi, kb_bb, kb_bs, kb_bt, kb_bl, kb_ti, kb_tb, kb_ts, kb_tt, kb_tl, kb_li, kb_lb, kb_ls, kb_lt, kb_ll, kb_si, kb_sb, kb_ss, kb_st, kb_sl, kb_ni, kb_nb, kb_ns, kb_nt, kb_nl, nxt, never, brk, ctn, itS, parA, mnil, mcv, mco, setAll, tgN, tgT, tgsC, tgs0, yes, lcStep, wipeS, wipeL, backS, backL, keepS, intsD_map, boolsD_map, sortRo, revF, revD, callN, callI, ownO, putO, ixO, setIx, appE, Option.bind_some, Option.map_some, Option.bind_none, Option.map_none, List.length_cons, List.length_nil, List.length_map, List.map_cons, List.map_nil, List.cons_append, List.nil_append, List.append_nil, List.replicate_succ, List.replicate_zero, List.reduceReplicate, List.getElem?_cons_zero, List.getElem?_cons_succ, List.getElem?_nil, List.set_cons_zero, List.set_cons_succ, Nat.reduceAdd, Nat.reduceSub, Nat.reduceMul, Nat.reduceEqDiff, Nat.reduceLeDiff, Nat.reduceLT, Int.add_zero, Int.zero_add, List.map_reverse, Nat.reduceBEq, Int.reduceAdd, Int.reduceSub, Int.reduceLT, Int.reduceLE, Int.reduceEq, Int.reduceNeg, Int.reduceToNat, Int.reduceMul, Nat.zero_add, Nat.add_zero, if_true, if_false, reduceIte, decide_true, decide_false, decide_eq_true_eq, Bool.not_true, Bool.not_false, Bool.and_true, Bool.true_and, Bool.and_self, Bool.and_false, Bool.false_and, Bool.or_true, Bool.true_or, Bool.or_false, Bool.false_or, Bool.false_eq_true, Bool.true_eq_false, and_self, and_true, true_and, true_or, or_true, Bool.or_self, Bool.not_not, Function.comp_apply, ne_eq, not_true_eq_false, not_false_eq_true, allL_yes, List.filterMap_cons, List.filterMap_nil, eqB_bl]
theorem zip_self (r : List Int) : zipL (r.map .int) (r.map .int) = r.map fun x => D.tup [.int x, .int x] := by
  unfold zipL
  induction r with
  | nil => rfl
  | cons x r ih => simp only [List.map_cons, List.zipWith_cons_cons, ih]
theorem fm_none {α β : Type} : ∀ r : List α, r.filterMap (fun _ => (none : Option β)) = []
  | [] => rfl
  | x :: r => by rw [List.filterMap_cons]; exact fm_none r
theorem e_alike_row (n : Nat) (r : List Int) (hl : r.length ≤ 16777216) : F__law_alike (n + 2) [.tup (r.map .int), .tup (r.map .int)] = some (.v (.bl true)) := by
  have e : lcS [2, 3] (itZ (acons (getv 0) (acons (getv 1) anil))) (tgT (tgsC (tgN 2) (tgsC (tgN 3) tgs0))) (nott (tst (callF (F__law_alike (n + 1)) (acons (getv 2) (acons (getv 3) anil))))) (cst (.int 1)) ⟨[.v (.tup (r.map .int)), .v (.tup (r.map .int)), .no, .no], []⟩
      = some ([], ⟨[.v (.tup (r.map .int)), .v (.tup (r.map .int)), .no, .no], []⟩) := by
    have := lcS_fm (vs := [2, 3]) (fi := itZ (acons (getv 0) (acons (getv 1) anil))) (t := tgT (tgsC (tgN 2) (tgsC (tgN 3) tgs0))) (u := nott (tst (callF (F__law_alike (n + 1)) (acons (getv 2) (acons (getv 3) anil))))) (el := cst (.int 1))
      (s := ⟨[.v (.tup (r.map .int)), .v (.tup (r.map .int)), .no, .no], []⟩) (s1 := ⟨[.v (.tup (r.map .int)), .v (.tup (r.map .int)), .no, .no], []⟩) (fun x : Int => D.tup [.int x, .int x]) (fun _ => none) r
      (by simp only [itZ, runV, runI, entV, entI, endV, endI, seqs, ifs, retv, reto, setv, seto, asg, drop1, retn, getv, geto, cst, bor, ofO, ofV, asL, seqD, bin2, bin2o, tst, chn, andv, orv, notv, ifv, andt, ort, nott, anil, acons, astar, astarB, mkT, mkL, call1, callo, callF, callFo, callKF, perm, rtD, S.setv, S.setO, szOk, subD_e, ltD_e, leD_e, gtD_e, geD_e, modD_e, fdivD_e, powD_e, addD_i, addD_l, addD_t, mulT_i, mulT_l, mulT_t, mulOk, negF, eqD, neD, isN, notN, ixD_t, ixD_l, ixD_f, lenD_t, lenD_l, lenD_f, lenL, tupD_t, tupD_l, tupD_f, tupL, listD_t, listD_l, listD_f, listL, intD_i, intD_b, absD_e, max2D, min2D, sumL, sumD_t, sumD_l, sortedV_t, sortedV_l, sortedV_f, sortedG_ints, isi_int, isi_bl, isi_tup, isi_lst, isi_str, isi_non, kb_ii, kb_ib, kb_is, kb_it, kb_il, kb_bi, kb_bb, kb_bs, kb_bt, kb_bl, kb_ti, kb_tb, kb_ts, kb_tt, kb_tl, kb_li, kb_lb, kb_ls, kb_lt, kb_ll, kb_si, kb_sb, kb_ss, kb_st, kb_sl, kb_ni, kb_nb, kb_ns, kb_nt, kb_nl, nxt, never, brk, ctn, itS, parA, mnil, mcv, mco, setAll, tgN, tgT, tgsC, tgs0, yes, lcStep, wipeS, wipeL, backS, backL, keepS, intsD_map, boolsD_map, sortRo, revF, revD, callN, callI, ownO, putO, ixO, setIx, appE, Option.bind_some, Option.map_some, Option.bind_none, Option.map_none, List.length_cons, List.length_nil, List.length_map, List.map_cons, List.map_nil, List.cons_append, List.nil_append, List.append_nil, List.replicate_succ, List.replicate_zero, List.reduceReplicate, List.getElem?_cons_zero, List.getElem?_cons_succ, List.getElem?_nil, List.set_cons_zero, List.set_cons_succ, Nat.reduceAdd, Nat.reduceSub, Nat.reduceMul, Nat.reduceEqDiff, Nat.reduceLeDiff, Nat.reduceLT, Int.add_zero, Int.zero_add, List.map_reverse, Nat.reduceBEq, Int.reduceAdd, Int.reduceSub, Int.reduceLT, Int.reduceLE, Int.reduceEq, Int.reduceNeg, Int.reduceToNat, Int.reduceMul, Nat.zero_add, Nat.add_zero, if_true, if_false, reduceIte, decide_true, decide_false, decide_eq_true_eq, Bool.not_true, Bool.not_false, Bool.and_true, Bool.true_and, Bool.and_self, Bool.and_false, Bool.false_and, Bool.or_true, Bool.true_or, Bool.or_false, Bool.false_or, Bool.false_eq_true, Bool.true_eq_false, and_self, and_true, true_and, true_or, or_true, Bool.or_self, Bool.not_not, Function.comp_apply, ne_eq, not_true_eq_false, not_false_eq_true, allL_yes, List.filterMap_cons, List.filterMap_nil, zipD, zip_self]) hl (fun x hx => by
        have := e_alike_int n x x
        rw [decide_eq_true rfl] at this
        simp only [runV, runI, entV, entI, endV, endI, seqs, ifs, retv, reto, setv, seto, asg, drop1, retn, getv, geto, cst, bor, ofO, ofV, asL, seqD, bin2, bin2o, tst, chn, andv, orv, notv, ifv, andt, ort, nott, anil, acons, astar, astarB, mkT, mkL, call1, callo, callF, callFo, callKF, perm, rtD, S.setv, S.setO, szOk, subD_e, ltD_e, leD_e, gtD_e, geD_e, modD_e, fdivD_e, powD_e, addD_i, addD_l, addD_t, mulT_i, mulT_l, mulT_t, mulOk, negF, eqD, neD, isN, notN, ixD_t, ixD_l, ixD_f, lenD_t, lenD_l, lenD_f, lenL, tupD_t, tupD_l, tupD_f, tupL, listD_t, listD_l, listD_f, listL, intD_i, intD_b, absD_e, max2D, min2D, sumL, sumD_t, sumD_l, sortedV_t, sortedV_l, sortedV_f, sortedG_ints, isi_int, isi_bl, isi_tup, isi_lst, isi_str, isi_non, kb_ii, kb_ib, kb_is, kb_it, kb_il, kb_bi, kb_bb, kb_bs, kb_bt, kb_bl, kb_ti, kb_tb, kb_ts, kb_tt, kb_tl, kb_li, kb_lb, kb_ls, kb_lt, kb_ll, kb_si, kb_sb, kb_ss, kb_st, kb_sl, kb_ni, kb_nb, kb_ns, kb_nt, kb_nl, nxt, never, brk, ctn, itS, parA, mnil, mcv, mco, setAll, tgN, tgT, tgsC, tgs0, yes, lcStep, wipeS, wipeL, backS, backL, keepS, intsD_map, boolsD_map, sortRo, revF, revD, callN, callI, ownO, putO, ixO, setIx, appE, Option.bind_some, Option.map_some, Option.bind_none, Option.map_none, List.length_cons, List.length_nil, List.length_map, List.map_cons, List.map_nil, List.cons_append, List.nil_append, List.append_nil, List.replicate_succ, List.replicate_zero, List.reduceReplicate, List.getElem?_cons_zero, List.getElem?_cons_succ, List.getElem?_nil, List.set_cons_zero, List.set_cons_succ, Nat.reduceAdd, Nat.reduceSub, Nat.reduceMul, Nat.reduceEqDiff, Nat.reduceLeDiff, Nat.reduceLT, Int.add_zero, Int.zero_add, List.map_reverse, Nat.reduceBEq, Int.reduceAdd, Int.reduceSub, Int.reduceLT, Int.reduceLE, Int.reduceEq, Int.reduceNeg, Int.reduceToNat, Int.reduceMul, Nat.zero_add, Nat.add_zero, if_true, if_false, reduceIte, decide_true, decide_false, decide_eq_true_eq, Bool.not_true, Bool.not_false, Bool.and_true, Bool.true_and, Bool.and_self, Bool.and_false, Bool.false_and, Bool.or_true, Bool.true_or, Bool.or_false, Bool.false_or, Bool.false_eq_true, Bool.true_eq_false, and_self, and_true, true_and, true_or, or_true, Bool.or_self, Bool.not_not, Function.comp_apply, ne_eq, not_true_eq_false, not_false_eq_true, allL_yes, List.filterMap_cons, List.filterMap_nil, this])
    rw [this]
    simp only [runV, runI, entV, entI, endV, endI, seqs, ifs, retv, reto, setv, seto, asg, drop1, retn, getv, geto, cst, bor, ofO, ofV, asL, seqD, bin2, bin2o, tst, chn, andv, orv, notv, ifv, andt, ort, nott, anil, acons, astar, astarB, mkT, mkL, call1, callo, callF, callFo, callKF, perm, rtD, S.setv, S.setO, szOk, subD_e, ltD_e, leD_e, gtD_e, geD_e, modD_e, fdivD_e, powD_e, addD_i, addD_l, addD_t, mulT_i, mulT_l, mulT_t, mulOk, negF, eqD, neD, isN, notN, ixD_t, ixD_l, ixD_f, lenD_t, lenD_l, lenD_f, lenL, tupD_t, tupD_l, tupD_f, tupL, listD_t, listD_l, listD_f, listL, intD_i, intD_b, absD_e, max2D, min2D, sumL, sumD_t, sumD_l, sortedV_t, sortedV_l, sortedV_f, sortedG_ints, isi_int, isi_bl, isi_tup, isi_lst, isi_str, isi_non, kb_ii, kb_ib, kb_is, kb_it, kb_il, kb_bi, kb_bb, kb_bs, kb_bt, kb_bl, kb_ti, kb_tb, kb_ts, kb_tt, kb_tl, kb_li, kb_lb, kb_ls, kb_lt, kb_ll, kb_si, kb_sb, kb_ss, kb_st, kb_sl, kb_ni, kb_nb, kb_ns, kb_nt, kb_nl, nxt, never, brk, ctn, itS, parA, mnil, mcv, mco, setAll, tgN, tgT, tgsC, tgs0, yes, lcStep, wipeS, wipeL, backS, backL, keepS, intsD_map, boolsD_map, sortRo, revF, revD, callN, callI, ownO, putO, ixO, setIx, appE, Option.bind_some, Option.map_some, Option.bind_none, Option.map_none, List.length_cons, List.length_nil, List.length_map, List.map_cons, List.map_nil, List.cons_append, List.nil_append, List.append_nil, List.replicate_succ, List.replicate_zero, List.reduceReplicate, List.getElem?_cons_zero, List.getElem?_cons_succ, List.getElem?_nil, List.set_cons_zero, List.set_cons_succ, Nat.reduceAdd, Nat.reduceSub, Nat.reduceMul, Nat.reduceEqDiff, Nat.reduceLeDiff, Nat.reduceLT, Int.add_zero, Int.zero_add, List.map_reverse, Nat.reduceBEq, Int.reduceAdd, Int.reduceSub, Int.reduceLT, Int.reduceLE, Int.reduceEq, Int.reduceNeg, Int.reduceToNat, Int.reduceMul, Nat.zero_add, Nat.add_zero, if_true, if_false, reduceIte, decide_true, decide_false, decide_eq_true_eq, Bool.not_true, Bool.not_false, Bool.and_true, Bool.true_and, Bool.and_self, Bool.and_false, Bool.false_and, Bool.or_true, Bool.true_or, Bool.or_false, Bool.false_or, Bool.false_eq_true, Bool.true_eq_false, and_self, and_true, true_and, true_or, or_true, Bool.or_self, Bool.not_not, Function.comp_apply, ne_eq, not_true_eq_false, not_false_eq_true, allL_yes, List.filterMap_cons, List.filterMap_nil, fm_none]
  have e2 := eqB_lst [] []
  rw [List.map_nil] at e2
  have e3 := eqB_int (r.length : Int) r.length
  simp only [F__law_alike, g__law_alike, runV, runI, entV, entI, endV, endI, seqs, ifs, retv, reto, setv, seto, asg, drop1, retn, getv, geto, cst, bor, ofO, ofV, asL, seqD, bin2, bin2o, tst, chn, andv, orv, notv, ifv, andt, ort, nott, anil, acons, astar, astarB, mkT, mkL, call1, callo, callF, callFo, callKF, perm, rtD, S.setv, S.setO, szOk, subD_e, ltD_e, leD_e, gtD_e, geD_e, modD_e, fdivD_e, powD_e, addD_i, addD_l, addD_t, mulT_i, mulT_l, mulT_t, mulOk, negF, eqD, neD, isN, notN, ixD_t, ixD_l, ixD_f, lenD_t, lenD_l, lenD_f, lenL, tupD_t, tupD_l, tupD_f, tupL, listD_t, listD_l, listD_f, listL, intD_i, intD_b, absD_e, max2D, min2D, sumL, sumD_t, sumD_l, sortedV_t, sortedV_l, sortedV_f, sortedG_ints, isi_int, isi_bl, isi_tup, isi_lst, isi_str, isi_non, kb_ii, kb_ib, kb_is, kb_it, kb_il, kb_bi, kb_bb, kb_bs, kb_bt, kb_bl, kb_ti, kb_tb, kb_ts, kb_tt, kb_tl, kb_li, kb_lb, kb_ls, kb_lt, kb_ll, kb_si, kb_sb, kb_ss, kb_st, kb_sl, kb_ni, kb_nb, kb_ns, kb_nt, kb_nl, nxt, never, brk, ctn, itS, parA, mnil, mcv, mco, setAll, tgN, tgT, tgsC, tgs0, yes, lcStep, wipeS, wipeL, backS, backL, keepS, intsD_map, boolsD_map, sortRo, revF, revD, callN, callI, ownO, putO, ixO, setIx, appE, Option.bind_some, Option.map_some, Option.bind_none, Option.map_none, List.length_cons, List.length_nil, List.length_map, List.map_cons, List.map_nil, List.cons_append, List.nil_append, List.append_nil, List.replicate_succ, List.replicate_zero, List.reduceReplicate, List.getElem?_cons_zero, List.getElem?_cons_succ, List.getElem?_nil, List.set_cons_zero, List.set_cons_succ, Nat.reduceAdd, Nat.reduceSub, Nat.reduceMul, Nat.reduceEqDiff, Nat.reduceLeDiff, Nat.reduceLT, Int.add_zero, Int.zero_add, List.map_reverse, Nat.reduceBEq, Int.reduceAdd, Int.reduceSub, Int.reduceLT, Int.reduceLE, Int.reduceEq, Int.reduceNeg, Int.reduceToNat, Int.reduceMul, Nat.zero_add, Nat.add_zero, if_true, if_false, reduceIte, decide_true, decide_false, decide_eq_true_eq, Bool.not_true, Bool.not_false, Bool.and_true, Bool.true_and, Bool.and_self, Bool.and_false, Bool.false_and, Bool.or_true, Bool.true_or, Bool.or_false, Bool.false_or, Bool.false_eq_true, Bool.true_eq_false, and_self, and_true, true_and, true_or, or_true, Bool.or_self, Bool.not_not, Function.comp_apply, ne_eq, not_true_eq_false, not_false_eq_true, allL_yes, List.filterMap_cons, List.filterMap_nil] at e ⊢
  simp only [e, e2, e3, runV, runI, entV, entI, endV, endI, seqs, ifs, retv, reto, setv, seto, asg, drop1, retn, getv, geto, cst, bor, ofO, ofV, asL, seqD, bin2, bin2o, tst, chn, andv, orv, notv, ifv, andt, ort, nott, anil, acons, astar, astarB, mkT, mkL, call1, callo, callF, callFo, callKF, perm, rtD, S.setv, S.setO, szOk, subD_e, ltD_e, leD_e, gtD_e, geD_e, modD_e, fdivD_e, powD_e, addD_i, addD_l, addD_t, mulT_i, mulT_l, mulT_t, mulOk, negF, eqD, neD, isN, notN, ixD_t, ixD_l, ixD_f, lenD_t, lenD_l, lenD_f, lenL, tupD_t, tupD_l, tupD_f, tupL, listD_t, listD_l, listD_f, listL, intD_i, intD_b, absD_e, max2D, min2D, sumL, sumD_t, sumD_l, sortedV_t, sortedV_l, sortedV_f, sortedG_ints, isi_int, isi_bl, isi_tup, isi_lst, isi_str, isi_non, kb_ii, kb_ib, kb_is, kb_it, kb_il, kb_bi, kb_bb, kb_bs, kb_bt, kb_bl, kb_ti, kb_tb, kb_ts, kb_tt, kb_tl, kb_li, kb_lb, kb_ls, kb_lt, kb_ll, kb_si, kb_sb, kb_ss, kb_st, kb_sl, kb_ni, kb_nb, kb_ns, kb_nt, kb_nl, nxt, never, brk, ctn, itS, parA, mnil, mcv, mco, setAll, tgN, tgT, tgsC, tgs0, yes, lcStep, wipeS, wipeL, backS, backL, keepS, intsD_map, boolsD_map, sortRo, revF, revD, callN, callI, ownO, putO, ixO, setIx, appE, Option.bind_some, Option.map_some, Option.bind_none, Option.map_none, List.length_cons, List.length_nil, List.length_map, List.map_cons, List.map_nil, List.cons_append, List.nil_append, List.append_nil, List.replicate_succ, List.replicate_zero, List.reduceReplicate, List.getElem?_cons_zero, List.getElem?_cons_succ, List.getElem?_nil, List.set_cons_zero, List.set_cons_succ, Nat.reduceAdd, Nat.reduceSub, Nat.reduceMul, Nat.reduceEqDiff, Nat.reduceLeDiff, Nat.reduceLT, Int.add_zero, Int.zero_add, List.map_reverse, Nat.reduceBEq, Int.reduceAdd, Int.reduceSub, Int.reduceLT, Int.reduceLE, Int.reduceEq, Int.reduceNeg, Int.reduceToNat, Int.reduceMul, Nat.zero_add, Nat.add_zero, if_true, if_false, reduceIte, decide_true, decide_false, decide_eq_true_eq, Bool.not_true, Bool.not_false, Bool.and_true, Bool.true_and, Bool.and_self, Bool.and_false, Bool.false_and, Bool.or_true, Bool.true_or, Bool.or_false, Bool.false_or, Bool.false_eq_true, Bool.true_eq_false, and_self, and_true, true_and, true_or, or_true, Bool.or_self, Bool.not_not, Function.comp_apply, ne_eq, not_true_eq_false, not_false_eq_true, allL_yes, List.filterMap_cons, List.filterMap_nil]
theorem e_in_order (r : List Int) (h : Ok r) : F__law_in_order [.tup ((ahead r).map rowD)] = some (.v (.tup ((ahead r).map rowD))) := by
  simp only [F__law_in_order, g__law_in_order, runV, runI, entV, entI, endV, endI, seqs, ifs, retv, reto, setv, seto, asg, drop1, retn, getv, geto, cst, bor, ofO, ofV, asL, seqD, bin2, bin2o, tst, chn, andv, orv, notv, ifv, andt, ort, nott, anil, acons, astar, astarB, mkT, mkL, call1, callo, callF, callFo, callKF, perm, rtD, S.setv, S.setO, szOk, subD_e, ltD_e, leD_e, gtD_e, geD_e, modD_e, fdivD_e, powD_e, addD_i, addD_l, addD_t, mulT_i, mulT_l, mulT_t, mulOk, negF, eqD, neD, isN, notN, ixD_t, ixD_l, ixD_f, lenD_t, lenD_l, lenD_f, lenL, tupD_t, tupD_l, tupD_f, tupL, listD_t, listD_l, listD_f, listL, intD_i, intD_b, absD_e, max2D, min2D, sumL, sumD_t, sumD_l, sortedV_t, sortedV_l, sortedV_f, sortedG_ints, isi_int, isi_bl, isi_tup, isi_lst, isi_str, isi_non, kb_ii, kb_ib, kb_is, kb_it, kb_il, kb_bi, kb_bb, kb_bs, kb_bt, kb_bl, kb_ti, kb_tb, kb_ts, kb_tt, kb_tl, kb_li, kb_lb, kb_ls, kb_lt, kb_ll, kb_si, kb_sb, kb_ss, kb_st, kb_sl, kb_ni, kb_nb, kb_ns, kb_nt, kb_nl, nxt, never, brk, ctn, itS, parA, mnil, mcv, mco, setAll, tgN, tgT, tgsC, tgs0, yes, lcStep, wipeS, wipeL, backS, backL, keepS, intsD_map, boolsD_map, sortRo, revF, revD, callN, callI, ownO, putO, ixO, setIx, appE, Option.bind_some, Option.map_some, Option.bind_none, Option.map_none, List.length_cons, List.length_nil, List.length_map, List.map_cons, List.map_nil, List.cons_append, List.nil_append, List.append_nil, List.replicate_succ, List.replicate_zero, List.reduceReplicate, List.getElem?_cons_zero, List.getElem?_cons_succ, List.getElem?_nil, List.set_cons_zero, List.set_cons_succ, Nat.reduceAdd, Nat.reduceSub, Nat.reduceMul, Nat.reduceEqDiff, Nat.reduceLeDiff, Nat.reduceLT, Int.add_zero, Int.zero_add, List.map_reverse, Nat.reduceBEq, Int.reduceAdd, Int.reduceSub, Int.reduceLT, Int.reduceLE, Int.reduceEq, Int.reduceNeg, Int.reduceToNat, Int.reduceMul, Nat.zero_add, Nat.add_zero, if_true, if_false, reduceIte, decide_true, decide_false, decide_eq_true_eq, Bool.not_true, Bool.not_false, Bool.and_true, Bool.true_and, Bool.and_self, Bool.and_false, Bool.false_and, Bool.or_true, Bool.true_or, Bool.or_false, Bool.false_or, Bool.false_eq_true, Bool.true_eq_false, and_self, and_true, true_and, true_or, or_true, Bool.or_self, Bool.not_not, Function.comp_apply, ne_eq, not_true_eq_false, not_false_eq_true, allL_yes, List.filterMap_cons, List.filterMap_nil, ahead_in_order h]
/-! _law_row_right -/
def stR (r : List Int) (w : Sl) (x y : Sl) : S := ⟨[.v (.tup (r.map .int)), .v (.int (rankP r)), .v (.tup ((ahead r).map rowD)), w, x, y], []⟩
def rankX : S → Option (D × S) := (ifv (tst (bin2 (getv 0) (mkT anil) neD)) (bin2 (bin2 (getv 0) (cst (.int 0)) ixD) (call1 (acons (getv 0) anil) lenD) subD) (cst (.int 0)))
theorem rankX_e (r : List Int) (w x y : Sl) : rankX (stR r w x y) = some (.int (rankP r), stR r w x y) := by
  have e := eqB_row0 r
  unfold rankP
  by_cases hn : r = []
  · subst hn; rfl
  · have e2 := atI_ints r 0 (by omega) (by have := List.length_pos_iff.mpr hn; omega)
    rw [Int.toNat_zero] at e2
    simp only [rankX, stR, runV, runI, entV, entI, endV, endI, seqs, ifs, retv, reto, setv, seto, asg, drop1, retn, getv, geto, cst, bor, ofO, ofV, asL, seqD, bin2, bin2o, tst, chn, andv, orv, notv, ifv, andt, ort, nott, anil, acons, astar, astarB, mkT, mkL, call1, callo, callF, callFo, callKF, perm, rtD, S.setv, S.setO, szOk, subD_e, ltD_e, leD_e, gtD_e, geD_e, modD_e, fdivD_e, powD_e, addD_i, addD_l, addD_t, mulT_i, mulT_l, mulT_t, mulOk, negF, eqD, neD, isN, notN, ixD_t, ixD_l, ixD_f, lenD_t, lenD_l, lenD_f, lenL, tupD_t, tupD_l, tupD_f, tupL, listD_t, listD_l, listD_f, listL, intD_i, intD_b, absD_e, max2D, min2D, sumL, sumD_t, sumD_l, sortedV_t, sortedV_l, sortedV_f, sortedG_ints, isi_int, isi_bl, isi_tup, isi_lst, isi_str, isi_non, kb_ii, kb_ib, kb_is, kb_it, kb_il, kb_bi, kb_bb, kb_bs, kb_bt, kb_bl, kb_ti, kb_tb, kb_ts, kb_tt, kb_tl, kb_li, kb_lb, kb_ls, kb_lt, kb_ll, kb_si, kb_sb, kb_ss, kb_st, kb_sl, kb_ni, kb_nb, kb_ns, kb_nt, kb_nl, nxt, never, brk, ctn, itS, parA, mnil, mcv, mco, setAll, tgN, tgT, tgsC, tgs0, yes, lcStep, wipeS, wipeL, backS, backL, keepS, intsD_map, boolsD_map, sortRo, revF, revD, callN, callI, ownO, putO, ixO, setIx, appE, Option.bind_some, Option.map_some, Option.bind_none, Option.map_none, List.length_cons, List.length_nil, List.length_map, List.map_cons, List.map_nil, List.cons_append, List.nil_append, List.append_nil, List.replicate_succ, List.replicate_zero, List.reduceReplicate, List.getElem?_cons_zero, List.getElem?_cons_succ, List.getElem?_nil, List.set_cons_zero, List.set_cons_succ, Nat.reduceAdd, Nat.reduceSub, Nat.reduceMul, Nat.reduceEqDiff, Nat.reduceLeDiff, Nat.reduceLT, Int.add_zero, Int.zero_add, List.map_reverse, Nat.reduceBEq, Int.reduceAdd, Int.reduceSub, Int.reduceLT, Int.reduceLE, Int.reduceEq, Int.reduceNeg, Int.reduceToNat, Int.reduceMul, Nat.zero_add, Nat.add_zero, if_true, if_false, reduceIte, decide_true, decide_false, decide_eq_true_eq, Bool.not_true, Bool.not_false, Bool.and_true, Bool.true_and, Bool.and_self, Bool.and_false, Bool.false_and, Bool.or_true, Bool.true_or, Bool.or_false, Bool.false_or, Bool.false_eq_true, Bool.true_eq_false, and_self, and_true, true_and, true_or, or_true, Bool.or_self, Bool.not_not, Function.comp_apply, ne_eq, not_true_eq_false, not_false_eq_true, allL_yes, List.filterMap_cons, List.filterMap_nil, e, hn, e2]
theorem rr_step1 (r : List Int) (h : Ok r) : (parA [1, 2] (mcv (callF F_rank (acons (getv 0) anil)) (mcv (callF F_dealt_from (acons (getv 0) anil)) mnil))) ⟨[.v (.tup (r.map .int)), .no, .no, .no, .no, .no], []⟩ = some (.nx (stR r .no .no .no)) := by
  simp only [stR, runV, runI, entV, entI, endV, endI, seqs, ifs, retv, reto, setv, seto, asg, drop1, retn, getv, geto, cst, bor, ofO, ofV, asL, seqD, bin2, bin2o, tst, chn, andv, orv, notv, ifv, andt, ort, nott, anil, acons, astar, astarB, mkT, mkL, call1, callo, callF, callFo, callKF, perm, rtD, S.setv, S.setO, szOk, subD_e, ltD_e, leD_e, gtD_e, geD_e, modD_e, fdivD_e, powD_e, addD_i, addD_l, addD_t, mulT_i, mulT_l, mulT_t, mulOk, negF, eqD, neD, isN, notN, ixD_t, ixD_l, ixD_f, lenD_t, lenD_l, lenD_f, lenL, tupD_t, tupD_l, tupD_f, tupL, listD_t, listD_l, listD_f, listL, intD_i, intD_b, absD_e, max2D, min2D, sumL, sumD_t, sumD_l, sortedV_t, sortedV_l, sortedV_f, sortedG_ints, isi_int, isi_bl, isi_tup, isi_lst, isi_str, isi_non, kb_ii, kb_ib, kb_is, kb_it, kb_il, kb_bi, kb_bb, kb_bs, kb_bt, kb_bl, kb_ti, kb_tb, kb_ts, kb_tt, kb_tl, kb_li, kb_lb, kb_ls, kb_lt, kb_ll, kb_si, kb_sb, kb_ss, kb_st, kb_sl, kb_ni, kb_nb, kb_ns, kb_nt, kb_nl, nxt, never, brk, ctn, itS, parA, mnil, mcv, mco, setAll, tgN, tgT, tgsC, tgs0, yes, lcStep, wipeS, wipeL, backS, backL, keepS, intsD_map, boolsD_map, sortRo, revF, revD, callN, callI, ownO, putO, ixO, setIx, appE, Option.bind_some, Option.map_some, Option.bind_none, Option.map_none, List.length_cons, List.length_nil, List.length_map, List.map_cons, List.map_nil, List.cons_append, List.nil_append, List.append_nil, List.replicate_succ, List.replicate_zero, List.reduceReplicate, List.getElem?_cons_zero, List.getElem?_cons_succ, List.getElem?_nil, List.set_cons_zero, List.set_cons_succ, Nat.reduceAdd, Nat.reduceSub, Nat.reduceMul, Nat.reduceEqDiff, Nat.reduceLeDiff, Nat.reduceLT, Int.add_zero, Int.zero_add, List.map_reverse, Nat.reduceBEq, Int.reduceAdd, Int.reduceSub, Int.reduceLT, Int.reduceLE, Int.reduceEq, Int.reduceNeg, Int.reduceToNat, Int.reduceMul, Nat.zero_add, Nat.add_zero, if_true, if_false, reduceIte, decide_true, decide_false, decide_eq_true_eq, Bool.not_true, Bool.not_false, Bool.and_true, Bool.true_and, Bool.and_self, Bool.and_false, Bool.false_and, Bool.or_true, Bool.true_or, Bool.or_false, Bool.false_or, Bool.false_eq_true, Bool.true_eq_false, and_self, and_true, true_and, true_or, or_true, Bool.or_self, Bool.not_not, Function.comp_apply, ne_eq, not_true_eq_false, not_false_eq_true, allL_yes, List.filterMap_cons, List.filterMap_nil, e_rank r h, e_dealt_from r h]
theorem rr_step2 (r : List Int) (h : Ok r) : (ifs (ort (tst (bin2 (getv 1) rankX neD)) (tst (bin2 (callKF F_rank 0 1 [0] anil (acons (callF F_turned (acons (getv 0) anil)) anil)) (bin2 (cst (.int 0)) (getv 1) subD) neD))) (retv (cst (.bl false))) nxt) (stR r .no .no .no) = some (.nx (stR r .no .no .no)) := by
  have e1 := rankX_e r .no .no .no
  have e2 := e_rank (turn r) h.turn
  have e3 := e_turned r h
  have e4 := rank_turn h
  have e5 : (0 : Int) - rankP r = - rankP r := by omega
  rw [e4] at e2
  unfold stR at *
  simp only [runV, runI, entV, entI, endV, endI, seqs, ifs, retv, reto, setv, seto, asg, drop1, retn, getv, geto, cst, bor, ofO, ofV, asL, seqD, bin2, bin2o, tst, chn, andv, orv, notv, ifv, andt, ort, nott, anil, acons, astar, astarB, mkT, mkL, call1, callo, callF, callFo, callKF, perm, rtD, S.setv, S.setO, szOk, subD_e, ltD_e, leD_e, gtD_e, geD_e, modD_e, fdivD_e, powD_e, addD_i, addD_l, addD_t, mulT_i, mulT_l, mulT_t, mulOk, negF, eqD, neD, isN, notN, ixD_t, ixD_l, ixD_f, lenD_t, lenD_l, lenD_f, lenL, tupD_t, tupD_l, tupD_f, tupL, listD_t, listD_l, listD_f, listL, intD_i, intD_b, absD_e, max2D, min2D, sumL, sumD_t, sumD_l, sortedV_t, sortedV_l, sortedV_f, sortedG_ints, isi_int, isi_bl, isi_tup, isi_lst, isi_str, isi_non, kb_ii, kb_ib, kb_is, kb_it, kb_il, kb_bi, kb_bb, kb_bs, kb_bt, kb_bl, kb_ti, kb_tb, kb_ts, kb_tt, kb_tl, kb_li, kb_lb, kb_ls, kb_lt, kb_ll, kb_si, kb_sb, kb_ss, kb_st, kb_sl, kb_ni, kb_nb, kb_ns, kb_nt, kb_nl, nxt, never, brk, ctn, itS, parA, mnil, mcv, mco, setAll, tgN, tgT, tgsC, tgs0, yes, lcStep, wipeS, wipeL, backS, backL, keepS, intsD_map, boolsD_map, sortRo, revF, revD, callN, callI, ownO, putO, ixO, setIx, appE, Option.bind_some, Option.map_some, Option.bind_none, Option.map_none, List.length_cons, List.length_nil, List.length_map, List.map_cons, List.map_nil, List.cons_append, List.nil_append, List.append_nil, List.replicate_succ, List.replicate_zero, List.reduceReplicate, List.getElem?_cons_zero, List.getElem?_cons_succ, List.getElem?_nil, List.set_cons_zero, List.set_cons_succ, Nat.reduceAdd, Nat.reduceSub, Nat.reduceMul, Nat.reduceEqDiff, Nat.reduceLeDiff, Nat.reduceLT, Int.add_zero, Int.zero_add, List.map_reverse, Nat.reduceBEq, Int.reduceAdd, Int.reduceSub, Int.reduceLT, Int.reduceLE, Int.reduceEq, Int.reduceNeg, Int.reduceToNat, Int.reduceMul, Nat.zero_add, Nat.add_zero, if_true, if_false, reduceIte, decide_true, decide_false, decide_eq_true_eq, Bool.not_true, Bool.not_false, Bool.and_true, Bool.true_and, Bool.and_self, Bool.and_false, Bool.false_and, Bool.or_true, Bool.true_or, Bool.or_false, Bool.false_or, Bool.false_eq_true, Bool.true_eq_false, and_self, and_true, true_and, true_or, or_true, Bool.or_self, Bool.not_not, Function.comp_apply, ne_eq, not_true_eq_false, not_false_eq_true, allL_yes, List.filterMap_cons, List.filterMap_nil, e1, e2, e3, eqB_int, e5, List.filterMap_cons, List.filterMap_nil]
end K65
namespace K65
open PySem L2 DL DLT PyProof.Rows
def wide (r : List Int) : List Int := (sortU r).filter fun k => decide ((r.length : Int) - 1 ≤ k)
theorem rr_step3 (r : List Int) (h : Ok r) : (setv 3 (ofO (lcS [4] (itS (ofO (sortSet (getv 0)))) (tgN 4) (tst (bin2 (getv 4) (bin2 (call1 (acons (getv 0) anil) lenD) (cst (.int 1)) subD) geD)) (getv 4)))) (stR r .no .no .no) = some (.nx (stR r (.v (.lst ((wide r).map .int))) .no .no)) := by
  have hl := h.len
  have hs := h.2
  have hu := sortU_len h.1.2 (by omega)
  have e1 : (itS (ofO (sortSet (getv 0)))) (stR r .no .no .no) = some ((sortU r).map .int, stR r .no .no .no) := by
    have h3 : r.length < 4000 := by omega
    simp only [stR, runV, runI, entV, entI, endV, endI, seqs, ifs, retv, reto, setv, seto, asg, drop1, retn, getv, geto, cst, bor, ofO, ofV, asL, seqD, bin2, bin2o, tst, chn, andv, orv, notv, ifv, andt, ort, nott, anil, acons, astar, astarB, mkT, mkL, call1, callo, callF, callFo, callKF, perm, rtD, S.setv, S.setO, szOk, subD_e, ltD_e, leD_e, gtD_e, geD_e, modD_e, fdivD_e, powD_e, addD_i, addD_l, addD_t, mulT_i, mulT_l, mulT_t, mulOk, negF, eqD, neD, isN, notN, ixD_t, ixD_l, ixD_f, lenD_t, lenD_l, lenD_f, lenL, tupD_t, tupD_l, tupD_f, tupL, listD_t, listD_l, listD_f, listL, intD_i, intD_b, absD_e, max2D, min2D, sumL, sumD_t, sumD_l, sortedV_t, sortedV_l, sortedV_f, sortedG_ints, isi_int, isi_bl, isi_tup, isi_lst, isi_str, isi_non, kb_ii, kb_ib, kb_is, kb_it, kb_il, kb_bi, kb_bb, kb_bs, kb_bt, kb_bl, kb_ti, kb_tb, kb_ts, kb_tt, kb_tl, kb_li, kb_lb, kb_ls, kb_lt, kb_ll, kb_si, kb_sb, kb_ss, kb_st, kb_sl, kb_ni, kb_nb, kb_ns, kb_nt, kb_nl, nxt, never, brk, ctn, itS, parA, mnil, mcv, mco, setAll, tgN, tgT, tgsC, tgs0, yes, lcStep, wipeS, wipeL, backS, backL, keepS, intsD_map, boolsD_map, sortRo, revF, revD, callN, callI, ownO, putO, ixO, setIx, appE, Option.bind_some, Option.map_some, Option.bind_none, Option.map_none, List.length_cons, List.length_nil, List.length_map, List.map_cons, List.map_nil, List.cons_append, List.nil_append, List.append_nil, List.replicate_succ, List.replicate_zero, List.reduceReplicate, List.getElem?_cons_zero, List.getElem?_cons_succ, List.getElem?_nil, List.set_cons_zero, List.set_cons_succ, Nat.reduceAdd, Nat.reduceSub, Nat.reduceMul, Nat.reduceEqDiff, Nat.reduceLeDiff, Nat.reduceLT, Int.add_zero, Int.zero_add, List.map_reverse, Nat.reduceBEq, Int.reduceAdd, Int.reduceSub, Int.reduceLT, Int.reduceLE, Int.reduceEq, Int.reduceNeg, Int.reduceToNat, Int.reduceMul, Nat.zero_add, Nat.add_zero, if_true, if_false, reduceIte, decide_true, decide_false, decide_eq_true_eq, Bool.not_true, Bool.not_false, Bool.and_true, Bool.true_and, Bool.and_self, Bool.and_false, Bool.false_and, Bool.or_true, Bool.true_or, Bool.or_false, Bool.false_or, Bool.false_eq_true, Bool.true_eq_false, and_self, and_true, true_and, true_or, or_true, Bool.or_self, Bool.not_not, Function.comp_apply, ne_eq, not_true_eq_false, not_false_eq_true, allL_yes, List.filterMap_cons, List.filterMap_nil, sortSet, hu, h3]
  have e2 : lcS [4] (itS (ofO (sortSet (getv 0)))) (tgN 4) (tst (bin2 (getv 4) (bin2 (call1 (acons (getv 0) anil) lenD) (cst (.int 1)) subD) geD)) (getv 4) (stR r .no .no .no) = some ((wide r).map .int, stR r .no .no .no) := by
    refine lcS_flt (s1 := stR r .no .no .no) .int _ .int (sortU r) e1 (by omega) fun x hx => ?_
    by_cases hk : (r.length : Int) - 1 ≤ x <;> simp only [stR, runV, runI, entV, entI, endV, endI, seqs, ifs, retv, reto, setv, seto, asg, drop1, retn, getv, geto, cst, bor, ofO, ofV, asL, seqD, bin2, bin2o, tst, chn, andv, orv, notv, ifv, andt, ort, nott, anil, acons, astar, astarB, mkT, mkL, call1, callo, callF, callFo, callKF, perm, rtD, S.setv, S.setO, szOk, subD_e, ltD_e, leD_e, gtD_e, geD_e, modD_e, fdivD_e, powD_e, addD_i, addD_l, addD_t, mulT_i, mulT_l, mulT_t, mulOk, negF, eqD, neD, isN, notN, ixD_t, ixD_l, ixD_f, lenD_t, lenD_l, lenD_f, lenL, tupD_t, tupD_l, tupD_f, tupL, listD_t, listD_l, listD_f, listL, intD_i, intD_b, absD_e, max2D, min2D, sumL, sumD_t, sumD_l, sortedV_t, sortedV_l, sortedV_f, sortedG_ints, isi_int, isi_bl, isi_tup, isi_lst, isi_str, isi_non, kb_ii, kb_ib, kb_is, kb_it, kb_il, kb_bi, kb_bb, kb_bs, kb_bt, kb_bl, kb_ti, kb_tb, kb_ts, kb_tt, kb_tl, kb_li, kb_lb, kb_ls, kb_lt, kb_ll, kb_si, kb_sb, kb_ss, kb_st, kb_sl, kb_ni, kb_nb, kb_ns, kb_nt, kb_nl, nxt, never, brk, ctn, itS, parA, mnil, mcv, mco, setAll, tgN, tgT, tgsC, tgs0, yes, lcStep, wipeS, wipeL, backS, backL, keepS, intsD_map, boolsD_map, sortRo, revF, revD, callN, callI, ownO, putO, ixO, setIx, appE, Option.bind_some, Option.map_some, Option.bind_none, Option.map_none, List.length_cons, List.length_nil, List.length_map, List.map_cons, List.map_nil, List.cons_append, List.nil_append, List.append_nil, List.replicate_succ, List.replicate_zero, List.reduceReplicate, List.getElem?_cons_zero, List.getElem?_cons_succ, List.getElem?_nil, List.set_cons_zero, List.set_cons_succ, Nat.reduceAdd, Nat.reduceSub, Nat.reduceMul, Nat.reduceEqDiff, Nat.reduceLeDiff, Nat.reduceLT, Int.add_zero, Int.zero_add, List.map_reverse, Nat.reduceBEq, Int.reduceAdd, Int.reduceSub, Int.reduceLT, Int.reduceLE, Int.reduceEq, Int.reduceNeg, Int.reduceToNat, Int.reduceMul, Nat.zero_add, Nat.add_zero, if_true, if_false, reduceIte, decide_true, decide_false, decide_eq_true_eq, Bool.not_true, Bool.not_false, Bool.and_true, Bool.true_and, Bool.and_self, Bool.and_false, Bool.false_and, Bool.or_true, Bool.true_or, Bool.or_false, Bool.false_or, Bool.false_eq_true, Bool.true_eq_false, and_self, and_true, true_and, true_or, or_true, Bool.or_self, Bool.not_not, Function.comp_apply, ne_eq, not_true_eq_false, not_false_eq_true, allL_yes, List.filterMap_cons, List.filterMap_nil, hk]
  unfold stR at *
  simp only [runV, runI, entV, entI, endV, endI, seqs, ifs, retv, reto, setv, seto, asg, drop1, retn, getv, geto, cst, bor, ofO, ofV, asL, seqD, bin2, bin2o, tst, chn, andv, orv, notv, ifv, andt, ort, nott, anil, acons, astar, astarB, mkT, mkL, call1, callo, callF, callFo, callKF, perm, rtD, S.setv, S.setO, szOk, subD_e, ltD_e, leD_e, gtD_e, geD_e, modD_e, fdivD_e, powD_e, addD_i, addD_l, addD_t, mulT_i, mulT_l, mulT_t, mulOk, negF, eqD, neD, isN, notN, ixD_t, ixD_l, ixD_f, lenD_t, lenD_l, lenD_f, lenL, tupD_t, tupD_l, tupD_f, tupL, listD_t, listD_l, listD_f, listL, intD_i, intD_b, absD_e, max2D, min2D, sumL, sumD_t, sumD_l, sortedV_t, sortedV_l, sortedV_f, sortedG_ints, isi_int, isi_bl, isi_tup, isi_lst, isi_str, isi_non, kb_ii, kb_ib, kb_is, kb_it, kb_il, kb_bi, kb_bb, kb_bs, kb_bt, kb_bl, kb_ti, kb_tb, kb_ts, kb_tt, kb_tl, kb_li, kb_lb, kb_ls, kb_lt, kb_ll, kb_si, kb_sb, kb_ss, kb_st, kb_sl, kb_ni, kb_nb, kb_ns, kb_nt, kb_nl, nxt, never, brk, ctn, itS, parA, mnil, mcv, mco, setAll, tgN, tgT, tgsC, tgs0, yes, lcStep, wipeS, wipeL, backS, backL, keepS, intsD_map, boolsD_map, sortRo, revF, revD, callN, callI, ownO, putO, ixO, setIx, appE, Option.bind_some, Option.map_some, Option.bind_none, Option.map_none, List.length_cons, List.length_nil, List.length_map, List.map_cons, List.map_nil, List.cons_append, List.nil_append, List.append_nil, List.replicate_succ, List.replicate_zero, List.reduceReplicate, List.getElem?_cons_zero, List.getElem?_cons_succ, List.getElem?_nil, List.set_cons_zero, List.set_cons_succ, Nat.reduceAdd, Nat.reduceSub, Nat.reduceMul, Nat.reduceEqDiff, Nat.reduceLeDiff, Nat.reduceLT, Int.add_zero, Int.zero_add, List.map_reverse, Nat.reduceBEq, Int.reduceAdd, Int.reduceSub, Int.reduceLT, Int.reduceLE, Int.reduceEq, Int.reduceNeg, Int.reduceToNat, Int.reduceMul, Nat.zero_add, Nat.add_zero, if_true, if_false, reduceIte, decide_true, decide_false, decide_eq_true_eq, Bool.not_true, Bool.not_false, Bool.and_true, Bool.true_and, Bool.and_self, Bool.and_false, Bool.false_and, Bool.or_true, Bool.true_or, Bool.or_false, Bool.false_or, Bool.false_eq_true, Bool.true_eq_false, and_self, and_true, true_and, true_or, or_true, Bool.or_self, Bool.not_not, Function.comp_apply, ne_eq, not_true_eq_false, not_false_eq_true, allL_yes, List.filterMap_cons, List.filterMap_nil, e2]
def lenX : S → Option (D × S) := (ifv (tst (bin2 (getv 0) (mkT anil) neD)) (call1 (acons (getv 3) anil) lenD) (cst (.int 1)))
theorem lenX_e (r : List Int) : lenX (stR r (.v (.lst ((wide r).map .int))) .no .no) = some (.int (ahead r).length, stR r (.v (.lst ((wide r).map .int))) .no .no) := by
  have e := eqB_row0 r
  rw [ahead_len]
  by_cases hn : r = []
  · subst hn; rfl
  · rw [if_neg hn]
    simp only [lenX, stR, runV, runI, entV, entI, endV, endI, seqs, ifs, retv, reto, setv, seto, asg, drop1, retn, getv, geto, cst, bor, ofO, ofV, asL, seqD, bin2, bin2o, tst, chn, andv, orv, notv, ifv, andt, ort, nott, anil, acons, astar, astarB, mkT, mkL, call1, callo, callF, callFo, callKF, perm, rtD, S.setv, S.setO, szOk, subD_e, ltD_e, leD_e, gtD_e, geD_e, modD_e, fdivD_e, powD_e, addD_i, addD_l, addD_t, mulT_i, mulT_l, mulT_t, mulOk, negF, eqD, neD, isN, notN, ixD_t, ixD_l, ixD_f, lenD_t, lenD_l, lenD_f, lenL, tupD_t, tupD_l, tupD_f, tupL, listD_t, listD_l, listD_f, listL, intD_i, intD_b, absD_e, max2D, min2D, sumL, sumD_t, sumD_l, sortedV_t, sortedV_l, sortedV_f, sortedG_ints, isi_int, isi_bl, isi_tup, isi_lst, isi_str, isi_non, kb_ii, kb_ib, kb_is, kb_it, kb_il, kb_bi, kb_bb, kb_bs, kb_bt, kb_bl, kb_ti, kb_tb, kb_ts, kb_tt, kb_tl, kb_li, kb_lb, kb_ls, kb_lt, kb_ll, kb_si, kb_sb, kb_ss, kb_st, kb_sl, kb_ni, kb_nb, kb_ns, kb_nt, kb_nl, nxt, never, brk, ctn, itS, parA, mnil, mcv, mco, setAll, tgN, tgT, tgsC, tgs0, yes, lcStep, wipeS, wipeL, backS, backL, keepS, intsD_map, boolsD_map, sortRo, revF, revD, callN, callI, ownO, putO, ixO, setIx, appE, Option.bind_some, Option.map_some, Option.bind_none, Option.map_none, List.length_cons, List.length_nil, List.length_map, List.map_cons, List.map_nil, List.cons_append, List.nil_append, List.append_nil, List.replicate_succ, List.replicate_zero, List.reduceReplicate, List.getElem?_cons_zero, List.getElem?_cons_succ, List.getElem?_nil, List.set_cons_zero, List.set_cons_succ, Nat.reduceAdd, Nat.reduceSub, Nat.reduceMul, Nat.reduceEqDiff, Nat.reduceLeDiff, Nat.reduceLT, Int.add_zero, Int.zero_add, List.map_reverse, Nat.reduceBEq, Int.reduceAdd, Int.reduceSub, Int.reduceLT, Int.reduceLE, Int.reduceEq, Int.reduceNeg, Int.reduceToNat, Int.reduceMul, Nat.zero_add, Nat.add_zero, if_true, if_false, reduceIte, decide_true, decide_false, decide_eq_true_eq, Bool.not_true, Bool.not_false, Bool.and_true, Bool.true_and, Bool.and_self, Bool.and_false, Bool.false_and, Bool.or_true, Bool.true_or, Bool.or_false, Bool.false_or, Bool.false_eq_true, Bool.true_eq_false, and_self, and_true, true_and, true_or, or_true, Bool.or_self, Bool.not_not, Function.comp_apply, ne_eq, not_true_eq_false, not_false_eq_true, allL_yes, List.filterMap_cons, List.filterMap_nil, e, hn, wide]
theorem rr_step4 (r : List Int) (h : Ok r) : (ifs (ort (nott (tst (callF (F__law_alike 40) (acons (callKF F_is_garden 0 1 [0] anil (acons (getv 0) anil)) (acons (bin2 (getv 1) (bin2 (cst (.int 0)) (cst (.int 2)) subD) leD) anil))))) (ort (tst (bin2 (call1 (acons (getv 2) anil) lenD) lenX neD)) (tst (bin2 (getv 2) (callF F__law_in_order (acons (getv 2) anil)) neD)))) (retv (cst (.bl false))) nxt)
    (stR r (.v (.lst ((wide r).map .int))) .no .no) = some (.nx (stR r (.v (.lst ((wide r).map .int))) .no .no)) := by
  have e1 := lenX_e r
  have e2 := e_is_garden r h
  have e4 : decide (ahead r = []) = decide (rankP r ≤ -2) := decide_eq_decide.mpr (garden_iff h)
  have e3 : F__law_alike 40 [.bl (decide (ahead r = [])), .bl (decide (rankP r ≤ -2))] = some (.v (.bl true)) := by
    rw [e4, e_alike_bl 39, decide_eq_true rfl]
  have e5 := eqB_rows (ahead r) (ahead r)
  rw [decide_eq_true rfl] at e5
  have e6 := eqB_int ((ahead r).length : Int) (ahead r).length
  rw [decide_eq_true rfl] at e6
  have e7 := e_in_order r h
  unfold stR at *
  simp only [runV, runI, entV, entI, endV, endI, seqs, ifs, retv, reto, setv, seto, asg, drop1, retn, getv, geto, cst, bor, ofO, ofV, asL, seqD, bin2, bin2o, tst, chn, andv, orv, notv, ifv, andt, ort, nott, anil, acons, astar, astarB, mkT, mkL, call1, callo, callF, callFo, callKF, perm, rtD, S.setv, S.setO, szOk, subD_e, ltD_e, leD_e, gtD_e, geD_e, modD_e, fdivD_e, powD_e, addD_i, addD_l, addD_t, mulT_i, mulT_l, mulT_t, mulOk, negF, eqD, neD, isN, notN, ixD_t, ixD_l, ixD_f, lenD_t, lenD_l, lenD_f, lenL, tupD_t, tupD_l, tupD_f, tupL, listD_t, listD_l, listD_f, listL, intD_i, intD_b, absD_e, max2D, min2D, sumL, sumD_t, sumD_l, sortedV_t, sortedV_l, sortedV_f, sortedG_ints, isi_int, isi_bl, isi_tup, isi_lst, isi_str, isi_non, kb_ii, kb_ib, kb_is, kb_it, kb_il, kb_bi, kb_bb, kb_bs, kb_bt, kb_bl, kb_ti, kb_tb, kb_ts, kb_tt, kb_tl, kb_li, kb_lb, kb_ls, kb_lt, kb_ll, kb_si, kb_sb, kb_ss, kb_st, kb_sl, kb_ni, kb_nb, kb_ns, kb_nt, kb_nl, nxt, never, brk, ctn, itS, parA, mnil, mcv, mco, setAll, tgN, tgT, tgsC, tgs0, yes, lcStep, wipeS, wipeL, backS, backL, keepS, intsD_map, boolsD_map, sortRo, revF, revD, callN, callI, ownO, putO, ixO, setIx, appE, Option.bind_some, Option.map_some, Option.bind_none, Option.map_none, List.length_cons, List.length_nil, List.length_map, List.map_cons, List.map_nil, List.cons_append, List.nil_append, List.append_nil, List.replicate_succ, List.replicate_zero, List.reduceReplicate, List.getElem?_cons_zero, List.getElem?_cons_succ, List.getElem?_nil, List.set_cons_zero, List.set_cons_succ, Nat.reduceAdd, Nat.reduceSub, Nat.reduceMul, Nat.reduceEqDiff, Nat.reduceLeDiff, Nat.reduceLT, Int.add_zero, Int.zero_add, List.map_reverse, Nat.reduceBEq, Int.reduceAdd, Int.reduceSub, Int.reduceLT, Int.reduceLE, Int.reduceEq, Int.reduceNeg, Int.reduceToNat, Int.reduceMul, Nat.zero_add, Nat.add_zero, if_true, if_false, reduceIte, decide_true, decide_false, decide_eq_true_eq, Bool.not_true, Bool.not_false, Bool.and_true, Bool.true_and, Bool.and_self, Bool.and_false, Bool.false_and, Bool.or_true, Bool.true_or, Bool.or_false, Bool.false_or, Bool.false_eq_true, Bool.true_eq_false, and_self, and_true, true_and, true_or, or_true, Bool.or_self, Bool.not_not, Function.comp_apply, ne_eq, not_true_eq_false, not_false_eq_true, allL_yes, List.filterMap_cons, List.filterMap_nil, List.filterMap_cons, List.filterMap_nil, e1, e2, e3, e5, e6, e7]
theorem rr_step5 (r : List Int) (h : Ok r) : ∃ y, fors (itS (getv 2)) (tgN 5) (ifs (ort (nott (tst (callF (F__law_alike 40) (acons (callF F_dealt (acons (getv 5) anil)) (acons (getv 0) anil))))) (tst (bin2 (call1 (acons (getv 5) anil) sumD) (call1 (acons (getv 0) anil) sumD) neD))) (retv (cst (.bl false))) nxt)
    (stR r (.v (.lst ((wide r).map .int))) .no .no) = some (.nx (stR r (.v (.lst ((wide r).map .int))) .no y)) := by
  have e3 : F__law_alike 40 [.tup (r.map .int), .tup (r.map .int)] = some (.v (.bl true)) := e_alike_row 38 r (by have := h.len; omega)
  have e4 := eqB_int r.sum r.sum
  rw [decide_eq_true rfl] at e4
  obtain ⟨s', e1, y, rfl⟩ := forF_inv (t := tgN 5) (b := (ifs (ort (nott (tst (callF (F__law_alike 40) (acons (callF F_dealt (acons (getv 5) anil)) (acons (getv 0) anil))))) (tst (bin2 (call1 (acons (getv 5) anil) sumD) (call1 (acons (getv 0) anil) sumD) neD))) (retv (cst (.bl false))) nxt))
    rowD (fun s => ∃ y, s = stR r (.v (.lst ((wide r).map .int))) .no y) (ahead r) (stR r (.v (.lst ((wide r).map .int))) .no .no) (fun o ho s hs => by
      obtain ⟨y, rfl⟩ := hs
      obtain ⟨o1, o2, o3⟩ := ahead_back h o ho
      have e2 := e_dealt o o1
      rw [o3] at e2
      refine ⟨stR r (.v (.lst ((wide r).map .int))) .no (.v (rowD o)), .inl ?_, _, rfl⟩
      unfold stR rowD
      simp only [runV, runI, entV, entI, endV, endI, seqs, ifs, retv, reto, setv, seto, asg, drop1, retn, getv, geto, cst, bor, ofO, ofV, asL, seqD, bin2, bin2o, tst, chn, andv, orv, notv, ifv, andt, ort, nott, anil, acons, astar, astarB, mkT, mkL, call1, callo, callF, callFo, callKF, perm, rtD, S.setv, S.setO, szOk, subD_e, ltD_e, leD_e, gtD_e, geD_e, modD_e, fdivD_e, powD_e, addD_i, addD_l, addD_t, mulT_i, mulT_l, mulT_t, mulOk, negF, eqD, neD, isN, notN, ixD_t, ixD_l, ixD_f, lenD_t, lenD_l, lenD_f, lenL, tupD_t, tupD_l, tupD_f, tupL, listD_t, listD_l, listD_f, listL, intD_i, intD_b, absD_e, max2D, min2D, sumL, sumD_t, sumD_l, sortedV_t, sortedV_l, sortedV_f, sortedG_ints, isi_int, isi_bl, isi_tup, isi_lst, isi_str, isi_non, kb_ii, kb_ib, kb_is, kb_it, kb_il, kb_bi, kb_bb, kb_bs, kb_bt, kb_bl, kb_ti, kb_tb, kb_ts, kb_tt, kb_tl, kb_li, kb_lb, kb_ls, kb_lt, kb_ll, kb_si, kb_sb, kb_ss, kb_st, kb_sl, kb_ni, kb_nb, kb_ns, kb_nt, kb_nl, nxt, never, brk, ctn, itS, parA, mnil, mcv, mco, setAll, tgN, tgT, tgsC, tgs0, yes, lcStep, wipeS, wipeL, backS, backL, keepS, intsD_map, boolsD_map, sortRo, revF, revD, callN, callI, ownO, putO, ixO, setIx, appE, Option.bind_some, Option.map_some, Option.bind_none, Option.map_none, List.length_cons, List.length_nil, List.length_map, List.map_cons, List.map_nil, List.cons_append, List.nil_append, List.append_nil, List.replicate_succ, List.replicate_zero, List.reduceReplicate, List.getElem?_cons_zero, List.getElem?_cons_succ, List.getElem?_nil, List.set_cons_zero, List.set_cons_succ, Nat.reduceAdd, Nat.reduceSub, Nat.reduceMul, Nat.reduceEqDiff, Nat.reduceLeDiff, Nat.reduceLT, Int.add_zero, Int.zero_add, List.map_reverse, Nat.reduceBEq, Int.reduceAdd, Int.reduceSub, Int.reduceLT, Int.reduceLE, Int.reduceEq, Int.reduceNeg, Int.reduceToNat, Int.reduceMul, Nat.zero_add, Nat.add_zero, if_true, if_false, reduceIte, decide_true, decide_false, decide_eq_true_eq, Bool.not_true, Bool.not_false, Bool.and_true, Bool.true_and, Bool.and_self, Bool.and_false, Bool.false_and, Bool.or_true, Bool.true_or, Bool.or_false, Bool.false_or, Bool.false_eq_true, Bool.true_eq_false, and_self, and_true, true_and, true_or, or_true, Bool.or_self, Bool.not_not, Function.comp_apply, ne_eq, not_true_eq_false, not_false_eq_true, allL_yes, List.filterMap_cons, List.filterMap_nil, e2, e3, e4, o2]) ⟨_, rfl⟩
  exact ⟨y, fors_e (by unfold stR; simp only [runV, runI, entV, entI, endV, endI, seqs, ifs, retv, reto, setv, seto, asg, drop1, retn, getv, geto, cst, bor, ofO, ofV, asL, seqD, bin2, bin2o, tst, chn, andv, orv, notv, ifv, andt, ort, nott, anil, acons, astar, astarB, mkT, mkL, call1, callo, callF, callFo, callKF, perm, rtD, S.setv, S.setO, szOk, subD_e, ltD_e, leD_e, gtD_e, geD_e, modD_e, fdivD_e, powD_e, addD_i, addD_l, addD_t, mulT_i, mulT_l, mulT_t, mulOk, negF, eqD, neD, isN, notN, ixD_t, ixD_l, ixD_f, lenD_t, lenD_l, lenD_f, lenL, tupD_t, tupD_l, tupD_f, tupL, listD_t, listD_l, listD_f, listL, intD_i, intD_b, absD_e, max2D, min2D, sumL, sumD_t, sumD_l, sortedV_t, sortedV_l, sortedV_f, sortedG_ints, isi_int, isi_bl, isi_tup, isi_lst, isi_str, isi_non, kb_ii, kb_ib, kb_is, kb_it, kb_il, kb_bi, kb_bb, kb_bs, kb_bt, kb_bl, kb_ti, kb_tb, kb_ts, kb_tt, kb_tl, kb_li, kb_lb, kb_ls, kb_lt, kb_ll, kb_si, kb_sb, kb_ss, kb_st, kb_sl, kb_ni, kb_nb, kb_ns, kb_nt, kb_nl, nxt, never, brk, ctn, itS, parA, mnil, mcv, mco, setAll, tgN, tgT, tgsC, tgs0, yes, lcStep, wipeS, wipeL, backS, backL, keepS, intsD_map, boolsD_map, sortRo, revF, revD, callN, callI, ownO, putO, ixO, setIx, appE, Option.bind_some, Option.map_some, Option.bind_none, Option.map_none, List.length_cons, List.length_nil, List.length_map, List.map_cons, List.map_nil, List.cons_append, List.nil_append, List.append_nil, List.replicate_succ, List.replicate_zero, List.reduceReplicate, List.getElem?_cons_zero, List.getElem?_cons_succ, List.getElem?_nil, List.set_cons_zero, List.set_cons_succ, Nat.reduceAdd, Nat.reduceSub, Nat.reduceMul, Nat.reduceEqDiff, Nat.reduceLeDiff, Nat.reduceLT, Int.add_zero, Int.zero_add, List.map_reverse, Nat.reduceBEq, Int.reduceAdd, Int.reduceSub, Int.reduceLT, Int.reduceLE, Int.reduceEq, Int.reduceNeg, Int.reduceToNat, Int.reduceMul, Nat.zero_add, Nat.add_zero, if_true, if_false, reduceIte, decide_true, decide_false, decide_eq_true_eq, Bool.not_true, Bool.not_false, Bool.and_true, Bool.true_and, Bool.and_self, Bool.and_false, Bool.false_and, Bool.or_true, Bool.true_or, Bool.or_false, Bool.false_or, Bool.false_eq_true, Bool.true_eq_false, and_self, and_true, true_and, true_or, or_true, Bool.or_self, Bool.not_not, Function.comp_apply, ne_eq, not_true_eq_false, not_false_eq_true, allL_yes, List.filterMap_cons, List.filterMap_nil]) e1⟩
theorem rr_step6 (r : List Int) (h : Ok r) (y : Sl) : (retv (andv (bin2 (callF F_rank (acons (callF F_dealt (acons (getv 0) anil)) anil)) (negF (cst (.int 1))) geD) (bin2 (getv 0) (callKF F_dealt_from 0 1 [0] anil (acons (callF F_dealt (acons (getv 0) anil)) anil)) inD)))
    (stR r (.v (.lst ((wide r).map .int))) .no y) = some (.rt (.bl true) (stR r (.v (.lst ((wide r).map .int))) .no y)) := by
  have e1 := e_dealt r h
  have ⟨h1, h2⟩ := next_back h
  have e2 := e_rank (next r) (next_ok h).1
  have e3 := e_dealt_from (next r) (next_ok h).1
  have e4 := inB_rows r (ahead (next r))
  rw [decide_eq_true h2] at e4
  unfold stR
  simp only [runV, runI, entV, entI, endV, endI, seqs, ifs, retv, reto, setv, seto, asg, drop1, retn, getv, geto, cst, bor, ofO, ofV, asL, seqD, bin2, bin2o, tst, chn, andv, orv, notv, ifv, andt, ort, nott, anil, acons, astar, astarB, mkT, mkL, call1, callo, callF, callFo, callKF, perm, rtD, S.setv, S.setO, szOk, subD_e, ltD_e, leD_e, gtD_e, geD_e, modD_e, fdivD_e, powD_e, addD_i, addD_l, addD_t, mulT_i, mulT_l, mulT_t, mulOk, negF, eqD, neD, isN, notN, ixD_t, ixD_l, ixD_f, lenD_t, lenD_l, lenD_f, lenL, tupD_t, tupD_l, tupD_f, tupL, listD_t, listD_l, listD_f, listL, intD_i, intD_b, absD_e, max2D, min2D, sumL, sumD_t, sumD_l, sortedV_t, sortedV_l, sortedV_f, sortedG_ints, isi_int, isi_bl, isi_tup, isi_lst, isi_str, isi_non, kb_ii, kb_ib, kb_is, kb_it, kb_il, kb_bi, kb_bb, kb_bs, kb_bt, kb_bl, kb_ti, kb_tb, kb_ts, kb_tt, kb_tl, kb_li, kb_lb, kb_ls, kb_lt, kb_ll, kb_si, kb_sb, kb_ss, kb_st, kb_sl, kb_ni, kb_nb, kb_ns, kb_nt, kb_nl, nxt, never, brk, ctn, itS, parA, mnil, mcv, mco, setAll, tgN, tgT, tgsC, tgs0, yes, lcStep, wipeS, wipeL, backS, backL, keepS, intsD_map, boolsD_map, sortRo, revF, revD, callN, callI, ownO, putO, ixO, setIx, appE, Option.bind_some, Option.map_some, Option.bind_none, Option.map_none, List.length_cons, List.length_nil, List.length_map, List.map_cons, List.map_nil, List.cons_append, List.nil_append, List.append_nil, List.replicate_succ, List.replicate_zero, List.reduceReplicate, List.getElem?_cons_zero, List.getElem?_cons_succ, List.getElem?_nil, List.set_cons_zero, List.set_cons_succ, Nat.reduceAdd, Nat.reduceSub, Nat.reduceMul, Nat.reduceEqDiff, Nat.reduceLeDiff, Nat.reduceLT, Int.add_zero, Int.zero_add, List.map_reverse, Nat.reduceBEq, Int.reduceAdd, Int.reduceSub, Int.reduceLT, Int.reduceLE, Int.reduceEq, Int.reduceNeg, Int.reduceToNat, Int.reduceMul, Nat.zero_add, Nat.add_zero, if_true, if_false, reduceIte, decide_true, decide_false, decide_eq_true_eq, Bool.not_true, Bool.not_false, Bool.and_true, Bool.true_and, Bool.and_self, Bool.and_false, Bool.false_and, Bool.or_true, Bool.true_or, Bool.or_false, Bool.false_or, Bool.false_eq_true, Bool.true_eq_false, and_self, and_true, true_and, true_or, or_true, Bool.or_self, Bool.not_not, Function.comp_apply, ne_eq, not_true_eq_false, not_false_eq_true, allL_yes, List.filterMap_cons, List.filterMap_nil, inD, List.filterMap_cons, List.filterMap_nil, e1, e2, e3, e4, h1]
theorem e_row_right (r : List Int) (h : Ok r) : F__law_row_right [.tup (r.map .int)] = some (.v (.bl true)) := by
  obtain ⟨y, e5⟩ := rr_step5 r h
  refine runV_e ⟨[.v (.tup (r.map .int)), .no, .no, .no, .no, .no], []⟩ rfl rfl (o := some (.rt (.bl true) (stR r (.v (.lst ((wide r).map .int))) .no y))) ?_ rfl
  have e2 := rr_step2 r h
  have e4 := rr_step4 r h
  unfold rankX at e2
  unfold lenX at e4
  unfold g__law_row_right
  rw [seqs_nx (rr_step1 r h), seqs_nx e2, seqs_nx (rr_step3 r h), seqs_nx e4, seqs_nx e5]
  exact rr_step6 r h y
end K65
namespace K65
open PySem L2 DL DLT PyProof.Rows
theorem e_draw (a b m : Int) (h0 : 0 < m) (h1 : m < 1000000) : ∃ v a' b', F__law_draw [.int a, .int b] [.int m] = some (.v (.int v), [.int a', .int b']) ∧ 0 ≤ v ∧ v < m := by
  have z0 : m.natAbs < 2 ^ 9000 := Nat.lt_of_lt_of_le (show m.natAbs < 2 ^ 20 by omega) (Nat.pow_le_pow_right (by decide) (by decide))
  have z1 : Int.natAbs 2862933555777941757 < 2 ^ 64 := by decide
  have z2 : Int.natAbs 1073741824 < 2 ^ 9000 := Nat.lt_of_lt_of_le (show Int.natAbs 1073741824 < 2 ^ 31 by decide) (Nat.pow_le_pow_right (by decide) (by decide))
  by_cases ha : 0 < a
  · refine ⟨a % m, a / m, b, ?_, Int.emod_nonneg _ (by omega), Int.emod_lt_of_pos _ h0⟩
    refine runI_e ⟨[.io, .v (.int m), .no], [.int a, .int b]⟩ rfl rfl (o := some (.rt (.int (a % m)) ⟨[.io, .v (.int m), .v (.int (a % m))], [.int (a / m), .int b]⟩)) ?_ rfl
    simp only [g__law_draw, runV, runI, entV, entI, endV, endI, seqs, ifs, retv, reto, setv, seto, asg, drop1, retn, getv, geto, cst, bor, ofO, ofV, asL, seqD, bin2, bin2o, tst, chn, andv, orv, notv, ifv, andt, ort, nott, anil, acons, astar, astarB, mkT, mkL, call1, callo, callF, callFo, callKF, perm, rtD, S.setv, S.setO, szOk, subD_e, ltD_e, leD_e, gtD_e, geD_e, modD_e, fdivD_e, powD_e, addD_i, addD_l, addD_t, mulT_i, mulT_l, mulT_t, mulOk, negF, eqD, neD, isN, notN, ixD_t, ixD_l, ixD_f, lenD_t, lenD_l, lenD_f, lenL, tupD_t, tupD_l, tupD_f, tupL, listD_t, listD_l, listD_f, listL, intD_i, intD_b, absD_e, max2D, min2D, sumL, sumD_t, sumD_l, sortedV_t, sortedV_l, sortedV_f, sortedG_ints, isi_int, isi_bl, isi_tup, isi_lst, isi_str, isi_non, kb_ii, kb_ib, kb_is, kb_it, kb_il, kb_bi, kb_bb, kb_bs, kb_bt, kb_bl, kb_ti, kb_tb, kb_ts, kb_tt, kb_tl, kb_li, kb_lb, kb_ls, kb_lt, kb_ll, kb_si, kb_sb, kb_ss, kb_st, kb_sl, kb_ni, kb_nb, kb_ns, kb_nt, kb_nl, nxt, never, brk, ctn, itS, parA, mnil, mcv, mco, setAll, tgN, tgT, tgsC, tgs0, yes, lcStep, wipeS, wipeL, backS, backL, keepS, intsD_map, boolsD_map, sortRo, revF, revD, callN, callI, ownO, putO, ixO, setIx, appE, Option.bind_some, Option.map_some, Option.bind_none, Option.map_none, List.length_cons, List.length_nil, List.length_map, List.map_cons, List.map_nil, List.cons_append, List.nil_append, List.append_nil, List.replicate_succ, List.replicate_zero, List.reduceReplicate, List.getElem?_cons_zero, List.getElem?_cons_succ, List.getElem?_nil, List.set_cons_zero, List.set_cons_succ, Nat.reduceAdd, Nat.reduceSub, Nat.reduceMul, Nat.reduceEqDiff, Nat.reduceLeDiff, Nat.reduceLT, Int.add_zero, Int.zero_add, List.map_reverse, Nat.reduceBEq, Int.reduceAdd, Int.reduceSub, Int.reduceLT, Int.reduceLE, Int.reduceEq, Int.reduceNeg, Int.reduceToNat, Int.reduceMul, Nat.zero_add, Nat.add_zero, if_true, if_false, reduceIte, decide_true, decide_false, decide_eq_true_eq, Bool.not_true, Bool.not_false, Bool.and_true, Bool.true_and, Bool.and_self, Bool.and_false, Bool.false_and, Bool.or_true, Bool.true_or, Bool.or_false, Bool.false_or, Bool.false_eq_true, Bool.true_eq_false, and_self, and_true, true_and, true_or, or_true, Bool.or_self, Bool.not_not, Function.comp_apply, ne_eq, not_true_eq_false, not_false_eq_true, allL_yes, List.filterMap_cons, List.filterMap_nil, putO, ixN_zero, ixN_one, atI_zero, atI_one, ha, h0, z0, Nat.lt_irrefl, Nat.zero_lt_succ]
  · let B : Int := (b * 2862933555777941757 + 3037000493) % 18446744073709551557
    refine ⟨(B / 1073741824) % m, a, B, ?_, Int.emod_nonneg _ (by omega), Int.emod_lt_of_pos _ h0⟩
    refine runI_e ⟨[.io, .v (.int m), .no], [.int a, .int b]⟩ rfl rfl (o := some (.rt (.int ((B / 1073741824) % m)) ⟨[.io, .v (.int m), .no], [.int a, .int B]⟩)) ?_ rfl
    simp only [g__law_draw, runV, runI, entV, entI, endV, endI, seqs, ifs, retv, reto, setv, seto, asg, drop1, retn, getv, geto, cst, bor, ofO, ofV, asL, seqD, bin2, bin2o, tst, chn, andv, orv, notv, ifv, andt, ort, nott, anil, acons, astar, astarB, mkT, mkL, call1, callo, callF, callFo, callKF, perm, rtD, S.setv, S.setO, szOk, subD_e, ltD_e, leD_e, gtD_e, geD_e, modD_e, fdivD_e, powD_e, addD_i, addD_l, addD_t, mulT_i, mulT_l, mulT_t, mulOk, negF, eqD, neD, isN, notN, ixD_t, ixD_l, ixD_f, lenD_t, lenD_l, lenD_f, lenL, tupD_t, tupD_l, tupD_f, tupL, listD_t, listD_l, listD_f, listL, intD_i, intD_b, absD_e, max2D, min2D, sumL, sumD_t, sumD_l, sortedV_t, sortedV_l, sortedV_f, sortedG_ints, isi_int, isi_bl, isi_tup, isi_lst, isi_str, isi_non, kb_ii, kb_ib, kb_is, kb_it, kb_il, kb_bi, kb_bb, kb_bs, kb_bt, kb_bl, kb_ti, kb_tb, kb_ts, kb_tt, kb_tl, kb_li, kb_lb, kb_ls, kb_lt, kb_ll, kb_si, kb_sb, kb_ss, kb_st, kb_sl, kb_ni, kb_nb, kb_ns, kb_nt, kb_nl, nxt, never, brk, ctn, itS, parA, mnil, mcv, mco, setAll, tgN, tgT, tgsC, tgs0, yes, lcStep, wipeS, wipeL, backS, backL, keepS, intsD_map, boolsD_map, sortRo, revF, revD, callN, callI, ownO, putO, ixO, setIx, appE, Option.bind_some, Option.map_some, Option.bind_none, Option.map_none, List.length_cons, List.length_nil, List.length_map, List.map_cons, List.map_nil, List.cons_append, List.nil_append, List.append_nil, List.replicate_succ, List.replicate_zero, List.reduceReplicate, List.getElem?_cons_zero, List.getElem?_cons_succ, List.getElem?_nil, List.set_cons_zero, List.set_cons_succ, Nat.reduceAdd, Nat.reduceSub, Nat.reduceMul, Nat.reduceEqDiff, Nat.reduceLeDiff, Nat.reduceLT, Int.add_zero, Int.zero_add, List.map_reverse, Nat.reduceBEq, Int.reduceAdd, Int.reduceSub, Int.reduceLT, Int.reduceLE, Int.reduceEq, Int.reduceNeg, Int.reduceToNat, Int.reduceMul, Nat.zero_add, Nat.add_zero, if_true, if_false, reduceIte, decide_true, decide_false, decide_eq_true_eq, Bool.not_true, Bool.not_false, Bool.and_true, Bool.true_and, Bool.and_self, Bool.and_false, Bool.false_and, Bool.or_true, Bool.true_or, Bool.or_false, Bool.false_or, Bool.false_eq_true, Bool.true_eq_false, and_self, and_true, true_and, true_or, or_true, Bool.or_self, Bool.not_not, Function.comp_apply, ne_eq, not_true_eq_false, not_false_eq_true, allL_yes, List.filterMap_cons, List.filterMap_nil, putO, ixN_zero, ixN_one, atI_zero, atI_one, ha, h0, z1, z2, Nat.lt_irrefl, Nat.zero_lt_succ, B]
/-! the bag -/
theorem e_bag_step (l' : Sl) (ns : List Int) (j : Nat) (lap own held x : Int) (a b : Sl) (hj : j < 100) :
    ((tgT (tgsC (tgN 4) (tgsC (tgN 5) tgs0))) (.tup [.int j, .int x]) ⟨[l', .v (.int lap), .v (.int own), .v (.int held), a, b], []⟩).bind (setv 3 (bin2 (call1 (acons (bin2 (bin2 (bin2 (getv 3) (cst (.int 6364136223846793005)) mulT) (bin2 (call1 (acons (getv 5) anil) DL.intD) (bin2 (bin2 (cst (.int 6)) (getv 4) mulT) (cst (.int 5)) addD) mulT) addD) (cst (.int 1013904223)) addD) anil) DL.intD) (cst (.int 18446744073709551557)) modD))
     = some (.nx ⟨[l', .v (.int lap), .v (.int own), .v (.int ((held * 6364136223846793005 + x * (6 * j + 5) + 1013904223) % 18446744073709551557)), .v (.int j), .v (.int x)], []⟩) := by
  have z1 : Int.natAbs 6364136223846793005 < 2 ^ 64 := by decide
  have z2 : Int.natAbs 6 < 2 ^ 64 := by decide
  have z3 : (6 * (j : Int) + 5).natAbs < 2 ^ 64 := by omega
  simp only [runV, runI, entV, entI, endV, endI, seqs, ifs, retv, reto, setv, seto, asg, drop1, retn, getv, geto, cst, bor, ofO, ofV, asL, seqD, bin2, bin2o, tst, chn, andv, orv, notv, ifv, andt, ort, nott, anil, acons, astar, astarB, mkT, mkL, call1, callo, callF, callFo, callKF, perm, rtD, S.setv, S.setO, szOk, subD_e, ltD_e, leD_e, gtD_e, geD_e, modD_e, fdivD_e, powD_e, addD_i, addD_l, addD_t, mulT_i, mulT_l, mulT_t, mulOk, negF, eqD, neD, isN, notN, ixD_t, ixD_l, ixD_f, lenD_t, lenD_l, lenD_f, lenL, tupD_t, tupD_l, tupD_f, tupL, listD_t, listD_l, listD_f, listL, intD_i, intD_b, absD_e, max2D, min2D, sumL, sumD_t, sumD_l, sortedV_t, sortedV_l, sortedV_f, sortedG_ints, isi_int, isi_bl, isi_tup, isi_lst, isi_str, isi_non, kb_ii, kb_ib, kb_is, kb_it, kb_il, kb_bi, kb_bb, kb_bs, kb_bt, kb_bl, kb_ti, kb_tb, kb_ts, kb_tt, kb_tl, kb_li, kb_lb, kb_ls, kb_lt, kb_ll, kb_si, kb_sb, kb_ss, kb_st, kb_sl, kb_ni, kb_nb, kb_ns, kb_nt, kb_nl, nxt, never, brk, ctn, itS, parA, mnil, mcv, mco, setAll, tgN, tgT, tgsC, tgs0, yes, lcStep, wipeS, wipeL, backS, backL, keepS, intsD_map, boolsD_map, sortRo, revF, revD, callN, callI, ownO, putO, ixO, setIx, appE, Option.bind_some, Option.map_some, Option.bind_none, Option.map_none, List.length_cons, List.length_nil, List.length_map, List.map_cons, List.map_nil, List.cons_append, List.nil_append, List.append_nil, List.replicate_succ, List.replicate_zero, List.reduceReplicate, List.getElem?_cons_zero, List.getElem?_cons_succ, List.getElem?_nil, List.set_cons_zero, List.set_cons_succ, Nat.reduceAdd, Nat.reduceSub, Nat.reduceMul, Nat.reduceEqDiff, Nat.reduceLeDiff, Nat.reduceLT, Int.add_zero, Int.zero_add, List.map_reverse, Nat.reduceBEq, Int.reduceAdd, Int.reduceSub, Int.reduceLT, Int.reduceLE, Int.reduceEq, Int.reduceNeg, Int.reduceToNat, Int.reduceMul, Nat.zero_add, Nat.add_zero, if_true, if_false, reduceIte, decide_true, decide_false, decide_eq_true_eq, Bool.not_true, Bool.not_false, Bool.and_true, Bool.true_and, Bool.and_self, Bool.and_false, Bool.false_and, Bool.or_true, Bool.true_or, Bool.or_false, Bool.false_or, Bool.false_eq_true, Bool.true_eq_false, and_self, and_true, true_and, true_or, or_true, Bool.or_self, Bool.not_not, Function.comp_apply, ne_eq, not_true_eq_false, not_false_eq_true, allL_yes, List.filterMap_cons, List.filterMap_nil, z1, z2, z3]
end K65
namespace K65
open PySem L2 DL DLT PyProof.Rows
theorem enumL_ints (xs : List Int) : enumL (xs.map .int) = ((List.range xs.length).zip xs).map fun p => D.tup [.int (p.1 : Nat), .int p.2] := by
  have : ∀ (l : List Nat) (xs : List Int), l.zipWith (fun i d => D.tup [.int (i : Nat), d]) (xs.map .int) = (l.zip xs).map fun p => D.tup [.int (p.1 : Nat), .int p.2] := by
    intro l
    induction l with
    | nil => intro xs; rfl
    | cons i l ih =>
      intro xs
      cases xs with
      | nil => rfl
      | cons x xs => simp only [List.map_cons, List.zipWith_cons_cons, List.zip_cons_cons, ih]
  rw [enumL, List.length_map, this]
theorem cut_ints (xs : List Int) (lo hi : Option Int) : ∃ ys : List Int, DL.cutD (xs.map .int) lo hi = ys.map .int ∧ ys.length ≤ xs.length := by
  refine ⟨(xs.drop (HT.sIx xs.length 0 lo)).take (HT.sIx xs.length xs.length hi - HT.sIx xs.length 0 lo), ?_, ?_⟩
  · unfold DL.cutD
    rw [List.length_map, ← List.map_drop, ← List.map_take]
  · rw [List.length_take, List.length_drop]; omega
def bagB : S → Option Fl := (setv 3 (bin2 (call1 (acons (bin2 (bin2 (bin2 (getv 3) (cst (.int 6364136223846793005)) mulT) (bin2 (call1 (acons (getv 5) anil) DL.intD) (bin2 (bin2 (cst (.int 6)) (getv 4) mulT) (cst (.int 5)) addD) mulT) addD) (cst (.int 1013904223)) addD) anil) DL.intD) (cst (.int 18446744073709551557)) modD))
theorem e_bag_loop (ns : List Int) (hn : ns.length ≤ 63) (lap own held : Int) : ∃ held' a b, fors (itEn (slHi (getv 0) (cst (.int 60)))) (tgT (tgsC (tgN 4) (tgsC (tgN 5) tgs0))) bagB ⟨[.v (.fl (ns.map .int)), .v (.int lap), .v (.int own), .v (.int held), .no, .no], []⟩
    = some (.nx ⟨[.v (.fl (ns.map .int)), .v (.int lap), .v (.int own), .v (.int held'), a, b], []⟩) := by
  obtain ⟨ys, hy, hl⟩ := cut_ints ns none (some 60)
  obtain ⟨s', e1, held', a, b, rfl⟩ := forF_inv (t := (tgT (tgsC (tgN 4) (tgsC (tgN 5) tgs0)))) (b := bagB) (fun p : Nat × Int => D.tup [.int (p.1 : Nat), .int p.2])
    (fun s => ∃ held' a b, s = (⟨[.v (.fl (ns.map .int)), .v (.int lap), .v (.int own), .v (.int held'), a, b], []⟩ : S)) ((List.range ys.length).zip ys) ⟨[.v (.fl (ns.map .int)), .v (.int lap), .v (.int own), .v (.int held), .no, .no], []⟩ (fun p hp s hs => by
      obtain ⟨h', a, b, rfl⟩ := hs
      have := List.mem_range.mp (List.of_mem_zip hp).1
      exact ⟨_, .inl (e_bag_step _ ns p.1 lap own h' p.2 a b (by omega)), _, _, _, rfl⟩) ⟨_, _, _, rfl⟩
  refine ⟨held', a, b, fors_e ?_ e1⟩
  rw [← enumL_ints]
  simp only [itEn, slHi, slD, runV, runI, entV, entI, endV, endI, seqs, ifs, retv, reto, setv, seto, asg, drop1, retn, getv, geto, cst, bor, ofO, ofV, asL, seqD, bin2, bin2o, tst, chn, andv, orv, notv, ifv, andt, ort, nott, anil, acons, astar, astarB, mkT, mkL, call1, callo, callF, callFo, callKF, perm, rtD, S.setv, S.setO, szOk, subD_e, ltD_e, leD_e, gtD_e, geD_e, modD_e, fdivD_e, powD_e, addD_i, addD_l, addD_t, mulT_i, mulT_l, mulT_t, mulOk, negF, eqD, neD, isN, notN, ixD_t, ixD_l, ixD_f, lenD_t, lenD_l, lenD_f, lenL, tupD_t, tupD_l, tupD_f, tupL, listD_t, listD_l, listD_f, listL, intD_i, intD_b, absD_e, max2D, min2D, sumL, sumD_t, sumD_l, sortedV_t, sortedV_l, sortedV_f, sortedG_ints, isi_int, isi_bl, isi_tup, isi_lst, isi_str, isi_non, kb_ii, kb_ib, kb_is, kb_it, kb_il, kb_bi, kb_bb, kb_bs, kb_bt, kb_bl, kb_ti, kb_tb, kb_ts, kb_tt, kb_tl, kb_li, kb_lb, kb_ls, kb_lt, kb_ll, kb_si, kb_sb, kb_ss, kb_st, kb_sl, kb_ni, kb_nb, kb_ns, kb_nt, kb_nl, nxt, never, brk, ctn, itS, parA, mnil, mcv, mco, setAll, tgN, tgT, tgsC, tgs0, yes, lcStep, wipeS, wipeL, backS, backL, keepS, intsD_map, boolsD_map, sortRo, revF, revD, callN, callI, ownO, putO, ixO, setIx, appE, Option.bind_some, Option.map_some, Option.bind_none, Option.map_none, List.length_cons, List.length_nil, List.length_map, List.map_cons, List.map_nil, List.cons_append, List.nil_append, List.append_nil, List.replicate_succ, List.replicate_zero, List.reduceReplicate, List.getElem?_cons_zero, List.getElem?_cons_succ, List.getElem?_nil, List.set_cons_zero, List.set_cons_succ, Nat.reduceAdd, Nat.reduceSub, Nat.reduceMul, Nat.reduceEqDiff, Nat.reduceLeDiff, Nat.reduceLT, Int.add_zero, Int.zero_add, List.map_reverse, Nat.reduceBEq, Int.reduceAdd, Int.reduceSub, Int.reduceLT, Int.reduceLE, Int.reduceEq, Int.reduceNeg, Int.reduceToNat, Int.reduceMul, Nat.zero_add, Nat.add_zero, if_true, if_false, reduceIte, decide_true, decide_false, decide_eq_true_eq, Bool.not_true, Bool.not_false, Bool.and_true, Bool.true_and, Bool.and_self, Bool.and_false, Bool.false_and, Bool.or_true, Bool.true_or, Bool.or_false, Bool.false_or, Bool.false_eq_true, Bool.true_eq_false, and_self, and_true, true_and, true_or, or_true, Bool.or_self, Bool.not_not, Function.comp_apply, ne_eq, not_true_eq_false, not_false_eq_true, allL_yes, List.filterMap_cons, List.filterMap_nil, hy]
theorem e_bag (ns : List Int) (hn : ns.length ≤ 63) (lap : Int) (h0 : 0 ≤ lap) (h1 : lap < 100) : ∃ a b, F__law_bag [.fl (ns.map .int), .int lap] = some (.o [.int a, .int b]) := by
  have z1 : Int.natAbs 15485863 < 2 ^ 64 := by decide
  have z2 : Int.natAbs 10 < 2 ^ 64 := by decide
  have z3 : (0 : Int) < 10 ^ 40 := by decide
  have s1 : ∃ own, setv 2 (ifv (tst (bin2 (getv 1) (call1 (acons (getv 0) anil) lenD) ltD)) (call1 (acons (bin2 (getv 0) (getv 1) ixD) anil) DL.intD) (cst (.int 0))) ⟨[.v (.fl (ns.map .int)), .v (.int lap), .no, .no, .no, .no], []⟩
      = some (.nx ⟨[.v (.fl (ns.map .int)), .v (.int lap), .v (.int own), .no, .no, .no], []⟩) := by
    by_cases hc : lap < (ns.length : Int)
    · have e := atI_ints ns lap h0 hc
      exact ⟨_, by simp only [runV, runI, entV, entI, endV, endI, seqs, ifs, retv, reto, setv, seto, asg, drop1, retn, getv, geto, cst, bor, ofO, ofV, asL, seqD, bin2, bin2o, tst, chn, andv, orv, notv, ifv, andt, ort, nott, anil, acons, astar, astarB, mkT, mkL, call1, callo, callF, callFo, callKF, perm, rtD, S.setv, S.setO, szOk, subD_e, ltD_e, leD_e, gtD_e, geD_e, modD_e, fdivD_e, powD_e, addD_i, addD_l, addD_t, mulT_i, mulT_l, mulT_t, mulOk, negF, eqD, neD, isN, notN, ixD_t, ixD_l, ixD_f, lenD_t, lenD_l, lenD_f, lenL, tupD_t, tupD_l, tupD_f, tupL, listD_t, listD_l, listD_f, listL, intD_i, intD_b, absD_e, max2D, min2D, sumL, sumD_t, sumD_l, sortedV_t, sortedV_l, sortedV_f, sortedG_ints, isi_int, isi_bl, isi_tup, isi_lst, isi_str, isi_non, kb_ii, kb_ib, kb_is, kb_it, kb_il, kb_bi, kb_bb, kb_bs, kb_bt, kb_bl, kb_ti, kb_tb, kb_ts, kb_tt, kb_tl, kb_li, kb_lb, kb_ls, kb_lt, kb_ll, kb_si, kb_sb, kb_ss, kb_st, kb_sl, kb_ni, kb_nb, kb_ns, kb_nt, kb_nl, nxt, never, brk, ctn, itS, parA, mnil, mcv, mco, setAll, tgN, tgT, tgsC, tgs0, yes, lcStep, wipeS, wipeL, backS, backL, keepS, intsD_map, boolsD_map, sortRo, revF, revD, callN, callI, ownO, putO, ixO, setIx, appE, Option.bind_some, Option.map_some, Option.bind_none, Option.map_none, List.length_cons, List.length_nil, List.length_map, List.map_cons, List.map_nil, List.cons_append, List.nil_append, List.append_nil, List.replicate_succ, List.replicate_zero, List.reduceReplicate, List.getElem?_cons_zero, List.getElem?_cons_succ, List.getElem?_nil, List.set_cons_zero, List.set_cons_succ, Nat.reduceAdd, Nat.reduceSub, Nat.reduceMul, Nat.reduceEqDiff, Nat.reduceLeDiff, Nat.reduceLT, Int.add_zero, Int.zero_add, List.map_reverse, Nat.reduceBEq, Int.reduceAdd, Int.reduceSub, Int.reduceLT, Int.reduceLE, Int.reduceEq, Int.reduceNeg, Int.reduceToNat, Int.reduceMul, Nat.zero_add, Nat.add_zero, if_true, if_false, reduceIte, decide_true, decide_false, decide_eq_true_eq, Bool.not_true, Bool.not_false, Bool.and_true, Bool.true_and, Bool.and_self, Bool.and_false, Bool.false_and, Bool.or_true, Bool.true_or, Bool.or_false, Bool.false_or, Bool.false_eq_true, Bool.true_eq_false, and_self, and_true, true_and, true_or, or_true, Bool.or_self, Bool.not_not, Function.comp_apply, ne_eq, not_true_eq_false, not_false_eq_true, allL_yes, List.filterMap_cons, List.filterMap_nil, hc, e]; rfl⟩
    · exact ⟨0, by simp only [runV, runI, entV, entI, endV, endI, seqs, ifs, retv, reto, setv, seto, asg, drop1, retn, getv, geto, cst, bor, ofO, ofV, asL, seqD, bin2, bin2o, tst, chn, andv, orv, notv, ifv, andt, ort, nott, anil, acons, astar, astarB, mkT, mkL, call1, callo, callF, callFo, callKF, perm, rtD, S.setv, S.setO, szOk, subD_e, ltD_e, leD_e, gtD_e, geD_e, modD_e, fdivD_e, powD_e, addD_i, addD_l, addD_t, mulT_i, mulT_l, mulT_t, mulOk, negF, eqD, neD, isN, notN, ixD_t, ixD_l, ixD_f, lenD_t, lenD_l, lenD_f, lenL, tupD_t, tupD_l, tupD_f, tupL, listD_t, listD_l, listD_f, listL, intD_i, intD_b, absD_e, max2D, min2D, sumL, sumD_t, sumD_l, sortedV_t, sortedV_l, sortedV_f, sortedG_ints, isi_int, isi_bl, isi_tup, isi_lst, isi_str, isi_non, kb_ii, kb_ib, kb_is, kb_it, kb_il, kb_bi, kb_bb, kb_bs, kb_bt, kb_bl, kb_ti, kb_tb, kb_ts, kb_tt, kb_tl, kb_li, kb_lb, kb_ls, kb_lt, kb_ll, kb_si, kb_sb, kb_ss, kb_st, kb_sl, kb_ni, kb_nb, kb_ns, kb_nt, kb_nl, nxt, never, brk, ctn, itS, parA, mnil, mcv, mco, setAll, tgN, tgT, tgsC, tgs0, yes, lcStep, wipeS, wipeL, backS, backL, keepS, intsD_map, boolsD_map, sortRo, revF, revD, callN, callI, ownO, putO, ixO, setIx, appE, Option.bind_some, Option.map_some, Option.bind_none, Option.map_none, List.length_cons, List.length_nil, List.length_map, List.map_cons, List.map_nil, List.cons_append, List.nil_append, List.append_nil, List.replicate_succ, List.replicate_zero, List.reduceReplicate, List.getElem?_cons_zero, List.getElem?_cons_succ, List.getElem?_nil, List.set_cons_zero, List.set_cons_succ, Nat.reduceAdd, Nat.reduceSub, Nat.reduceMul, Nat.reduceEqDiff, Nat.reduceLeDiff, Nat.reduceLT, Int.add_zero, Int.zero_add, List.map_reverse, Nat.reduceBEq, Int.reduceAdd, Int.reduceSub, Int.reduceLT, Int.reduceLE, Int.reduceEq, Int.reduceNeg, Int.reduceToNat, Int.reduceMul, Nat.zero_add, Nat.add_zero, if_true, if_false, reduceIte, decide_true, decide_false, decide_eq_true_eq, Bool.not_true, Bool.not_false, Bool.and_true, Bool.true_and, Bool.and_self, Bool.and_false, Bool.false_and, Bool.or_true, Bool.true_or, Bool.or_false, Bool.false_or, Bool.false_eq_true, Bool.true_eq_false, and_self, and_true, true_and, true_or, or_true, Bool.or_self, Bool.not_not, Function.comp_apply, ne_eq, not_true_eq_false, not_false_eq_true, allL_yes, List.filterMap_cons, List.filterMap_nil, hc]⟩
  obtain ⟨own, s1⟩ := s1
  have s2 : setv 3 (bin2 (cst (.int 7046029254386353131)) (bin2 (cst (.int 15485863)) (getv 1) mulT) addD) ⟨[.v (.fl (ns.map .int)), .v (.int lap), .v (.int own), .no, .no, .no], []⟩
      = some (.nx ⟨[.v (.fl (ns.map .int)), .v (.int lap), .v (.int own), .v (.int (7046029254386353131 + 15485863 * lap)), .no, .no], []⟩) := by
    simp only [runV, runI, entV, entI, endV, endI, seqs, ifs, retv, reto, setv, seto, asg, drop1, retn, getv, geto, cst, bor, ofO, ofV, asL, seqD, bin2, bin2o, tst, chn, andv, orv, notv, ifv, andt, ort, nott, anil, acons, astar, astarB, mkT, mkL, call1, callo, callF, callFo, callKF, perm, rtD, S.setv, S.setO, szOk, subD_e, ltD_e, leD_e, gtD_e, geD_e, modD_e, fdivD_e, powD_e, addD_i, addD_l, addD_t, mulT_i, mulT_l, mulT_t, mulOk, negF, eqD, neD, isN, notN, ixD_t, ixD_l, ixD_f, lenD_t, lenD_l, lenD_f, lenL, tupD_t, tupD_l, tupD_f, tupL, listD_t, listD_l, listD_f, listL, intD_i, intD_b, absD_e, max2D, min2D, sumL, sumD_t, sumD_l, sortedV_t, sortedV_l, sortedV_f, sortedG_ints, isi_int, isi_bl, isi_tup, isi_lst, isi_str, isi_non, kb_ii, kb_ib, kb_is, kb_it, kb_il, kb_bi, kb_bb, kb_bs, kb_bt, kb_bl, kb_ti, kb_tb, kb_ts, kb_tt, kb_tl, kb_li, kb_lb, kb_ls, kb_lt, kb_ll, kb_si, kb_sb, kb_ss, kb_st, kb_sl, kb_ni, kb_nb, kb_ns, kb_nt, kb_nl, nxt, never, brk, ctn, itS, parA, mnil, mcv, mco, setAll, tgN, tgT, tgsC, tgs0, yes, lcStep, wipeS, wipeL, backS, backL, keepS, intsD_map, boolsD_map, sortRo, revF, revD, callN, callI, ownO, putO, ixO, setIx, appE, Option.bind_some, Option.map_some, Option.bind_none, Option.map_none, List.length_cons, List.length_nil, List.length_map, List.map_cons, List.map_nil, List.cons_append, List.nil_append, List.append_nil, List.replicate_succ, List.replicate_zero, List.reduceReplicate, List.getElem?_cons_zero, List.getElem?_cons_succ, List.getElem?_nil, List.set_cons_zero, List.set_cons_succ, Nat.reduceAdd, Nat.reduceSub, Nat.reduceMul, Nat.reduceEqDiff, Nat.reduceLeDiff, Nat.reduceLT, Int.add_zero, Int.zero_add, List.map_reverse, Nat.reduceBEq, Int.reduceAdd, Int.reduceSub, Int.reduceLT, Int.reduceLE, Int.reduceEq, Int.reduceNeg, Int.reduceToNat, Int.reduceMul, Nat.zero_add, Nat.add_zero, if_true, if_false, reduceIte, decide_true, decide_false, decide_eq_true_eq, Bool.not_true, Bool.not_false, Bool.and_true, Bool.true_and, Bool.and_self, Bool.and_false, Bool.false_and, Bool.or_true, Bool.true_or, Bool.or_false, Bool.false_or, Bool.false_eq_true, Bool.true_eq_false, and_self, and_true, true_and, true_or, or_true, Bool.or_self, Bool.not_not, Function.comp_apply, ne_eq, not_true_eq_false, not_false_eq_true, allL_yes, List.filterMap_cons, List.filterMap_nil, z1]
  obtain ⟨held', a, b, s3⟩ := e_bag_loop ns hn lap own (7046029254386353131 + 15485863 * lap)
  have s4 : ∃ x, (reto (mkL (acons (ifv (ort (tst (bin2 (getv 2) (cst (.int 0)) ltD)) (tst (bin2 (getv 2) (bin2 (cst (.int 10)) (cst (.int 12)) powD) gtD))) (bin2 (call1 (acons (getv 2) anil) absD) (bin2 (cst (.int 10)) (cst (.int 40)) powD) modD) (cst (.int 0))) (acons (getv 3) anil)))) ⟨[.v (.fl (ns.map .int)), .v (.int lap), .v (.int own), .v (.int held'), a, b], []⟩
      = some (.ro [.int x, .int held'] ⟨[.v (.fl (ns.map .int)), .v (.int lap), .v (.int own), .v (.int held'), a, b], []⟩) := by
    by_cases c1 : own < 0
    · exact ⟨_, by simp only [runV, runI, entV, entI, endV, endI, seqs, ifs, retv, reto, setv, seto, asg, drop1, retn, getv, geto, cst, bor, ofO, ofV, asL, seqD, bin2, bin2o, tst, chn, andv, orv, notv, ifv, andt, ort, nott, anil, acons, astar, astarB, mkT, mkL, call1, callo, callF, callFo, callKF, perm, rtD, S.setv, S.setO, szOk, subD_e, ltD_e, leD_e, gtD_e, geD_e, modD_e, fdivD_e, powD_e, addD_i, addD_l, addD_t, mulT_i, mulT_l, mulT_t, mulOk, negF, eqD, neD, isN, notN, ixD_t, ixD_l, ixD_f, lenD_t, lenD_l, lenD_f, lenL, tupD_t, tupD_l, tupD_f, tupL, listD_t, listD_l, listD_f, listL, intD_i, intD_b, absD_e, max2D, min2D, sumL, sumD_t, sumD_l, sortedV_t, sortedV_l, sortedV_f, sortedG_ints, isi_int, isi_bl, isi_tup, isi_lst, isi_str, isi_non, kb_ii, kb_ib, kb_is, kb_it, kb_il, kb_bi, kb_bb, kb_bs, kb_bt, kb_bl, kb_ti, kb_tb, kb_ts, kb_tt, kb_tl, kb_li, kb_lb, kb_ls, kb_lt, kb_ll, kb_si, kb_sb, kb_ss, kb_st, kb_sl, kb_ni, kb_nb, kb_ns, kb_nt, kb_nl, nxt, never, brk, ctn, itS, parA, mnil, mcv, mco, setAll, tgN, tgT, tgsC, tgs0, yes, lcStep, wipeS, wipeL, backS, backL, keepS, intsD_map, boolsD_map, sortRo, revF, revD, callN, callI, ownO, putO, ixO, setIx, appE, Option.bind_some, Option.map_some, Option.bind_none, Option.map_none, List.length_cons, List.length_nil, List.length_map, List.map_cons, List.map_nil, List.cons_append, List.nil_append, List.append_nil, List.replicate_succ, List.replicate_zero, List.reduceReplicate, List.getElem?_cons_zero, List.getElem?_cons_succ, List.getElem?_nil, List.set_cons_zero, List.set_cons_succ, Nat.reduceAdd, Nat.reduceSub, Nat.reduceMul, Nat.reduceEqDiff, Nat.reduceLeDiff, Nat.reduceLT, Int.add_zero, Int.zero_add, List.map_reverse, Nat.reduceBEq, Int.reduceAdd, Int.reduceSub, Int.reduceLT, Int.reduceLE, Int.reduceEq, Int.reduceNeg, Int.reduceToNat, Int.reduceMul, Nat.zero_add, Nat.add_zero, if_true, if_false, reduceIte, decide_true, decide_false, decide_eq_true_eq, Bool.not_true, Bool.not_false, Bool.and_true, Bool.true_and, Bool.and_self, Bool.and_false, Bool.false_and, Bool.or_true, Bool.true_or, Bool.or_false, Bool.false_or, Bool.false_eq_true, Bool.true_eq_false, and_self, and_true, true_and, true_or, or_true, Bool.or_self, Bool.not_not, Function.comp_apply, ne_eq, not_true_eq_false, not_false_eq_true, allL_yes, List.filterMap_cons, List.filterMap_nil, c1, z2, z3]; rfl⟩
    · by_cases c2 : 10 ^ 12 < own
      · exact ⟨_, by simp only [runV, runI, entV, entI, endV, endI, seqs, ifs, retv, reto, setv, seto, asg, drop1, retn, getv, geto, cst, bor, ofO, ofV, asL, seqD, bin2, bin2o, tst, chn, andv, orv, notv, ifv, andt, ort, nott, anil, acons, astar, astarB, mkT, mkL, call1, callo, callF, callFo, callKF, perm, rtD, S.setv, S.setO, szOk, subD_e, ltD_e, leD_e, gtD_e, geD_e, modD_e, fdivD_e, powD_e, addD_i, addD_l, addD_t, mulT_i, mulT_l, mulT_t, mulOk, negF, eqD, neD, isN, notN, ixD_t, ixD_l, ixD_f, lenD_t, lenD_l, lenD_f, lenL, tupD_t, tupD_l, tupD_f, tupL, listD_t, listD_l, listD_f, listL, intD_i, intD_b, absD_e, max2D, min2D, sumL, sumD_t, sumD_l, sortedV_t, sortedV_l, sortedV_f, sortedG_ints, isi_int, isi_bl, isi_tup, isi_lst, isi_str, isi_non, kb_ii, kb_ib, kb_is, kb_it, kb_il, kb_bi, kb_bb, kb_bs, kb_bt, kb_bl, kb_ti, kb_tb, kb_ts, kb_tt, kb_tl, kb_li, kb_lb, kb_ls, kb_lt, kb_ll, kb_si, kb_sb, kb_ss, kb_st, kb_sl, kb_ni, kb_nb, kb_ns, kb_nt, kb_nl, nxt, never, brk, ctn, itS, parA, mnil, mcv, mco, setAll, tgN, tgT, tgsC, tgs0, yes, lcStep, wipeS, wipeL, backS, backL, keepS, intsD_map, boolsD_map, sortRo, revF, revD, callN, callI, ownO, putO, ixO, setIx, appE, Option.bind_some, Option.map_some, Option.bind_none, Option.map_none, List.length_cons, List.length_nil, List.length_map, List.map_cons, List.map_nil, List.cons_append, List.nil_append, List.append_nil, List.replicate_succ, List.replicate_zero, List.reduceReplicate, List.getElem?_cons_zero, List.getElem?_cons_succ, List.getElem?_nil, List.set_cons_zero, List.set_cons_succ, Nat.reduceAdd, Nat.reduceSub, Nat.reduceMul, Nat.reduceEqDiff, Nat.reduceLeDiff, Nat.reduceLT, Int.add_zero, Int.zero_add, List.map_reverse, Nat.reduceBEq, Int.reduceAdd, Int.reduceSub, Int.reduceLT, Int.reduceLE, Int.reduceEq, Int.reduceNeg, Int.reduceToNat, Int.reduceMul, Nat.zero_add, Nat.add_zero, if_true, if_false, reduceIte, decide_true, decide_false, decide_eq_true_eq, Bool.not_true, Bool.not_false, Bool.and_true, Bool.true_and, Bool.and_self, Bool.and_false, Bool.false_and, Bool.or_true, Bool.true_or, Bool.or_false, Bool.false_or, Bool.false_eq_true, Bool.true_eq_false, and_self, and_true, true_and, true_or, or_true, Bool.or_self, Bool.not_not, Function.comp_apply, ne_eq, not_true_eq_false, not_false_eq_true, allL_yes, List.filterMap_cons, List.filterMap_nil, c1, c2, z2, z3]; rfl⟩
      · exact ⟨_, by simp only [runV, runI, entV, entI, endV, endI, seqs, ifs, retv, reto, setv, seto, asg, drop1, retn, getv, geto, cst, bor, ofO, ofV, asL, seqD, bin2, bin2o, tst, chn, andv, orv, notv, ifv, andt, ort, nott, anil, acons, astar, astarB, mkT, mkL, call1, callo, callF, callFo, callKF, perm, rtD, S.setv, S.setO, szOk, subD_e, ltD_e, leD_e, gtD_e, geD_e, modD_e, fdivD_e, powD_e, addD_i, addD_l, addD_t, mulT_i, mulT_l, mulT_t, mulOk, negF, eqD, neD, isN, notN, ixD_t, ixD_l, ixD_f, lenD_t, lenD_l, lenD_f, lenL, tupD_t, tupD_l, tupD_f, tupL, listD_t, listD_l, listD_f, listL, intD_i, intD_b, absD_e, max2D, min2D, sumL, sumD_t, sumD_l, sortedV_t, sortedV_l, sortedV_f, sortedG_ints, isi_int, isi_bl, isi_tup, isi_lst, isi_str, isi_non, kb_ii, kb_ib, kb_is, kb_it, kb_il, kb_bi, kb_bb, kb_bs, kb_bt, kb_bl, kb_ti, kb_tb, kb_ts, kb_tt, kb_tl, kb_li, kb_lb, kb_ls, kb_lt, kb_ll, kb_si, kb_sb, kb_ss, kb_st, kb_sl, kb_ni, kb_nb, kb_ns, kb_nt, kb_nl, nxt, never, brk, ctn, itS, parA, mnil, mcv, mco, setAll, tgN, tgT, tgsC, tgs0, yes, lcStep, wipeS, wipeL, backS, backL, keepS, intsD_map, boolsD_map, sortRo, revF, revD, callN, callI, ownO, putO, ixO, setIx, appE, Option.bind_some, Option.map_some, Option.bind_none, Option.map_none, List.length_cons, List.length_nil, List.length_map, List.map_cons, List.map_nil, List.cons_append, List.nil_append, List.append_nil, List.replicate_succ, List.replicate_zero, List.reduceReplicate, List.getElem?_cons_zero, List.getElem?_cons_succ, List.getElem?_nil, List.set_cons_zero, List.set_cons_succ, Nat.reduceAdd, Nat.reduceSub, Nat.reduceMul, Nat.reduceEqDiff, Nat.reduceLeDiff, Nat.reduceLT, Int.add_zero, Int.zero_add, List.map_reverse, Nat.reduceBEq, Int.reduceAdd, Int.reduceSub, Int.reduceLT, Int.reduceLE, Int.reduceEq, Int.reduceNeg, Int.reduceToNat, Int.reduceMul, Nat.zero_add, Nat.add_zero, if_true, if_false, reduceIte, decide_true, decide_false, decide_eq_true_eq, Bool.not_true, Bool.not_false, Bool.and_true, Bool.true_and, Bool.and_self, Bool.and_false, Bool.false_and, Bool.or_true, Bool.true_or, Bool.or_false, Bool.false_or, Bool.false_eq_true, Bool.true_eq_false, and_self, and_true, true_and, true_or, or_true, Bool.or_self, Bool.not_not, Function.comp_apply, ne_eq, not_true_eq_false, not_false_eq_true, allL_yes, List.filterMap_cons, List.filterMap_nil, c1, c2, z2]; rfl⟩
  obtain ⟨x, s4⟩ := s4
  refine ⟨x, held', runV_e ⟨[.v (.fl (ns.map .int)), .v (.int lap), .no, .no, .no, .no], []⟩ rfl rfl (o := some (.ro [.int x, .int held'] ⟨[.v (.fl (ns.map .int)), .v (.int lap), .v (.int own), .v (.int held'), a, b], []⟩)) ?_ rfl⟩
  unfold bagB at s3
  unfold g__law_bag
  rw [seqs_nx s1, seqs_nx s2, seqs_nx s3]
  exact s4
end K65
namespace K65
open PySem L2 DL DLT PyProof.Rows
/-- what _law_row keeps -/
def rowI (number style : Int) (s : S) : Prop := ∃ (left : Int) (parts : List Int) (a b : Int) (j5 j6 j7 j8 j9 : Sl), s = ⟨[.io, .v (.int number), .v (.int left), .own (parts.map .int), .v (.int style), j5, j6, j7, j8, j9], [.int a, .int b]⟩ ∧ 0 ≤ left ∧ (∀ x ∈ parts, 1 ≤ x) ∧ parts.sum + left = number
def rowI2 (number style part : Int) (s : S) : Prop := ∃ (left : Int) (parts : List Int) (a b : Int) (j5 j6 j8 j9 : Sl), s = ⟨[.io, .v (.int number), .v (.int left), .own (parts.map .int), .v (.int style), j5, j6, .v (.int part), j8, j9], [.int a, .int b]⟩ ∧ 0 ≤ left ∧ (∀ x ∈ parts, 1 ≤ x) ∧ parts.sum + left = number
def rowB2 : S → Option Fl := (ifs (tst (bin2 (getv 7) (getv 2) leD)) (seqs (drop1 (appE 3 (getv 7))) (setv 2 (bin2 (getv 2) (getv 7) subD))) nxt)
theorem row_step2 (number style part : Int) (hn : number ≤ 600) (hp : 1 ≤ part) (x : Int) (s : S) (h : rowI2 number style part s) : ∃ s', ((tgN 9 (.int x) s).bind rowB2 = some (.nx s') ∨ (tgN 9 (.int x) s).bind rowB2 = some (.ct s') ∨ (tgN 9 (.int x) s).bind rowB2 = some (.bk s')) ∧ rowI2 number style part s' := by
  obtain ⟨left, parts, a, b, j5, j6, j8, j9, rfl, h1, h2, h3⟩ := h
  have hl := sum_pos h2
  by_cases hc : part ≤ left
  · refine ⟨⟨[.io, .v (.int number), .v (.int (left - part)), .own ((parts ++ [part]).map .int), .v (.int style), j5, j6, .v (.int part), j8, .v (.int x)], [.int a, .int b]⟩, .inl ?_, ?_⟩
    · have z : parts.length ≤ 16777215 := by omega
      simp only [rowB2, runV, runI, entV, entI, endV, endI, seqs, ifs, retv, reto, setv, seto, asg, drop1, retn, getv, geto, cst, bor, ofO, ofV, asL, seqD, bin2, bin2o, tst, chn, andv, orv, notv, ifv, andt, ort, nott, anil, acons, astar, astarB, mkT, mkL, call1, callo, callF, callFo, callKF, perm, rtD, S.setv, S.setO, szOk, subD_e, ltD_e, leD_e, gtD_e, geD_e, modD_e, fdivD_e, powD_e, addD_i, addD_l, addD_t, mulT_i, mulT_l, mulT_t, mulOk, negF, eqD, neD, isN, notN, ixD_t, ixD_l, ixD_f, lenD_t, lenD_l, lenD_f, lenL, tupD_t, tupD_l, tupD_f, tupL, listD_t, listD_l, listD_f, listL, intD_i, intD_b, absD_e, max2D, min2D, sumL, sumD_t, sumD_l, sortedV_t, sortedV_l, sortedV_f, sortedG_ints, isi_int, isi_bl, isi_tup, isi_lst, isi_str, isi_non, kb_ii, kb_ib, kb_is, kb_it, kb_il, kb_bi, kb_bb, kb_bs, kb_bt, kb_bl, kb_ti, kb_tb, kb_ts, kb_tt, kb_tl, kb_li, kb_lb, kb_ls, kb_lt, kb_ll, kb_si, kb_sb, kb_ss, kb_st, kb_sl, kb_ni, kb_nb, kb_ns, kb_nt, kb_nl, nxt, never, brk, ctn, itS, parA, mnil, mcv, mco, setAll, tgN, tgT, tgsC, tgs0, yes, lcStep, wipeS, wipeL, backS, backL, keepS, intsD_map, boolsD_map, sortRo, revF, revD, callN, callI, ownO, putO, ixO, setIx, appE, Option.bind_some, Option.map_some, Option.bind_none, Option.map_none, List.length_cons, List.length_nil, List.length_map, List.map_cons, List.map_nil, List.cons_append, List.nil_append, List.append_nil, List.replicate_succ, List.replicate_zero, List.reduceReplicate, List.getElem?_cons_zero, List.getElem?_cons_succ, List.getElem?_nil, List.set_cons_zero, List.set_cons_succ, Nat.reduceAdd, Nat.reduceSub, Nat.reduceMul, Nat.reduceEqDiff, Nat.reduceLeDiff, Nat.reduceLT, Int.add_zero, Int.zero_add, List.map_reverse, Nat.reduceBEq, Int.reduceAdd, Int.reduceSub, Int.reduceLT, Int.reduceLE, Int.reduceEq, Int.reduceNeg, Int.reduceToNat, Int.reduceMul, Nat.zero_add, Nat.add_zero, if_true, if_false, reduceIte, decide_true, decide_false, decide_eq_true_eq, Bool.not_true, Bool.not_false, Bool.and_true, Bool.true_and, Bool.and_self, Bool.and_false, Bool.false_and, Bool.or_true, Bool.true_or, Bool.or_false, Bool.false_or, Bool.false_eq_true, Bool.true_eq_false, and_self, and_true, true_and, true_or, or_true, Bool.or_self, Bool.not_not, Function.comp_apply, ne_eq, not_true_eq_false, not_false_eq_true, allL_yes, List.filterMap_cons, List.filterMap_nil, putO, hc, z, List.map_append]
    · refine ⟨left - part, parts ++ [part], a, b, j5, j6, j8, _, rfl, by omega, fun y hy => ?_, by rw [sum_app', List.sum_cons, List.sum_nil]; omega⟩
      rcases List.mem_append.mp hy with e | e
      · exact h2 y e
      · have := List.mem_singleton.mp e; omega
  · refine ⟨⟨[.io, .v (.int number), .v (.int left), .own (parts.map .int), .v (.int style), j5, j6, .v (.int part), j8, .v (.int x)], [.int a, .int b]⟩, .inl ?_, left, parts, a, b, j5, j6, j8, _, rfl, h1, h2, h3⟩
    simp only [rowB2, runV, runI, entV, entI, endV, endI, seqs, ifs, retv, reto, setv, seto, asg, drop1, retn, getv, geto, cst, bor, ofO, ofV, asL, seqD, bin2, bin2o, tst, chn, andv, orv, notv, ifv, andt, ort, nott, anil, acons, astar, astarB, mkT, mkL, call1, callo, callF, callFo, callKF, perm, rtD, S.setv, S.setO, szOk, subD_e, ltD_e, leD_e, gtD_e, geD_e, modD_e, fdivD_e, powD_e, addD_i, addD_l, addD_t, mulT_i, mulT_l, mulT_t, mulOk, negF, eqD, neD, isN, notN, ixD_t, ixD_l, ixD_f, lenD_t, lenD_l, lenD_f, lenL, tupD_t, tupD_l, tupD_f, tupL, listD_t, listD_l, listD_f, listL, intD_i, intD_b, absD_e, max2D, min2D, sumL, sumD_t, sumD_l, sortedV_t, sortedV_l, sortedV_f, sortedG_ints, isi_int, isi_bl, isi_tup, isi_lst, isi_str, isi_non, kb_ii, kb_ib, kb_is, kb_it, kb_il, kb_bi, kb_bb, kb_bs, kb_bt, kb_bl, kb_ti, kb_tb, kb_ts, kb_tt, kb_tl, kb_li, kb_lb, kb_ls, kb_lt, kb_ll, kb_si, kb_sb, kb_ss, kb_st, kb_sl, kb_ni, kb_nb, kb_ns, kb_nt, kb_nl, nxt, never, brk, ctn, itS, parA, mnil, mcv, mco, setAll, tgN, tgT, tgsC, tgs0, yes, lcStep, wipeS, wipeL, backS, backL, keepS, intsD_map, boolsD_map, sortRo, revF, revD, callN, callI, ownO, putO, ixO, setIx, appE, Option.bind_some, Option.map_some, Option.bind_none, Option.map_none, List.length_cons, List.length_nil, List.length_map, List.map_cons, List.map_nil, List.cons_append, List.nil_append, List.append_nil, List.replicate_succ, List.replicate_zero, List.reduceReplicate, List.getElem?_cons_zero, List.getElem?_cons_succ, List.getElem?_nil, List.set_cons_zero, List.set_cons_succ, Nat.reduceAdd, Nat.reduceSub, Nat.reduceMul, Nat.reduceEqDiff, Nat.reduceLeDiff, Nat.reduceLT, Int.add_zero, Int.zero_add, List.map_reverse, Nat.reduceBEq, Int.reduceAdd, Int.reduceSub, Int.reduceLT, Int.reduceLE, Int.reduceEq, Int.reduceNeg, Int.reduceToNat, Int.reduceMul, Nat.zero_add, Nat.add_zero, if_true, if_false, reduceIte, decide_true, decide_false, decide_eq_true_eq, Bool.not_true, Bool.not_false, Bool.and_true, Bool.true_and, Bool.and_self, Bool.and_false, Bool.false_and, Bool.or_true, Bool.true_or, Bool.or_false, Bool.false_or, Bool.false_eq_true, Bool.true_eq_false, and_self, and_true, true_and, true_or, or_true, Bool.or_self, Bool.not_not, Function.comp_apply, ne_eq, not_true_eq_false, not_false_eq_true, allL_yes, List.filterMap_cons, List.filterMap_nil, hc]
def rowB : S → Option Fl := (seqs (ifs (tst (bin2 (getv 2) (cst (.int 0)) eqD)) brk nxt)
  (seqs (setv 6 (call1 (acons (getv 2) (acons (bin2 (mkT (acons (getv 2) (acons (cst (.int 3)) (acons (bin2 (cst (.int 1)) (bin2 (getv 2) (cst (.int 2)) fdivD) addD) (acons (cst (.int 9)) (acons (bin2 (cst (.int 2)) (bin2 (getv 1) (cst (.int 4)) fdivD) addD) anil)))))) (getv 4) ixD) anil)) min2D))
  (seqs (setv 7 (bin2 (cst (.int 1)) (callI 0 F__law_draw (acons (call1 (acons (cst (.int 1)) (acons (getv 6) anil)) max2D) anil)) addD))
  (seqs (setv 8 (bin2 (cst (.int 1)) (callI 0 F__law_draw (acons (ifv (tst (bin2 (getv 4) (cst (.int 1)) neD)) (cst (.int 3)) (cst (.int 5))) anil)) addD))
  (fors (itR1 (acons (getv 8) anil)) (tgN 9) rowB2)))))
theorem z9000 (i : Nat) (h : i < 2 ^ 31) : i < 2 ^ 9000 := Nat.lt_of_lt_of_le h (Nat.pow_le_pow_right (by decide) (by decide))
theorem row_step (number style : Int) (hn : number ≤ 600) (h0 : 0 ≤ style) (h5 : style < 5) (x : Int) (s : S) (h : rowI number style s) : ∃ s', ((tgN 5 (.int x) s).bind rowB = some (.nx s') ∨ (tgN 5 (.int x) s).bind rowB = some (.ct s') ∨ (tgN 5 (.int x) s).bind rowB = some (.bk s')) ∧ rowI number style s' := by
  obtain ⟨left, parts, a, b, j5, j6, j7, j8, j9, rfl, h1, h2, h3⟩ := h
  have hl := sum_pos h2
  have t0 : tgN 5 (.int x) ⟨[.io, .v (.int number), .v (.int left), .own (parts.map .int), .v (.int style), j5, j6, j7, j8, j9], [.int a, .int b]⟩ = some ⟨[.io, .v (.int number), .v (.int left), .own (parts.map .int), .v (.int style), .v (.int x), j6, j7, j8, j9], [.int a, .int b]⟩ := rfl
  rw [t0, Option.bind_some]
  by_cases hc : left = 0
  · subst hc
    refine ⟨⟨[.io, .v (.int number), .v (.int 0), .own (parts.map .int), .v (.int style), .v (.int x), j6, j7, j8, j9], [.int a, .int b]⟩, .inr (.inr ?_), 0, parts, a, b, _, j6, j7, j8, j9, rfl, h1, h2, h3⟩
    have e := eqB_int 0 0
    simp only [rowB, runV, runI, entV, entI, endV, endI, seqs, ifs, retv, reto, setv, seto, asg, drop1, retn, getv, geto, cst, bor, ofO, ofV, asL, seqD, bin2, bin2o, tst, chn, andv, orv, notv, ifv, andt, ort, nott, anil, acons, astar, astarB, mkT, mkL, call1, callo, callF, callFo, callKF, perm, rtD, S.setv, S.setO, szOk, subD_e, ltD_e, leD_e, gtD_e, geD_e, modD_e, fdivD_e, powD_e, addD_i, addD_l, addD_t, mulT_i, mulT_l, mulT_t, mulOk, negF, eqD, neD, isN, notN, ixD_t, ixD_l, ixD_f, lenD_t, lenD_l, lenD_f, lenL, tupD_t, tupD_l, tupD_f, tupL, listD_t, listD_l, listD_f, listL, intD_i, intD_b, absD_e, max2D, min2D, sumL, sumD_t, sumD_l, sortedV_t, sortedV_l, sortedV_f, sortedG_ints, isi_int, isi_bl, isi_tup, isi_lst, isi_str, isi_non, kb_ii, kb_ib, kb_is, kb_it, kb_il, kb_bi, kb_bb, kb_bs, kb_bt, kb_bl, kb_ti, kb_tb, kb_ts, kb_tt, kb_tl, kb_li, kb_lb, kb_ls, kb_lt, kb_ll, kb_si, kb_sb, kb_ss, kb_st, kb_sl, kb_ni, kb_nb, kb_ns, kb_nt, kb_nl, nxt, never, brk, ctn, itS, parA, mnil, mcv, mco, setAll, tgN, tgT, tgsC, tgs0, yes, lcStep, wipeS, wipeL, backS, backL, keepS, intsD_map, boolsD_map, sortRo, revF, revD, callN, callI, ownO, putO, ixO, setIx, appE, Option.bind_some, Option.map_some, Option.bind_none, Option.map_none, List.length_cons, List.length_nil, List.length_map, List.map_cons, List.map_nil, List.cons_append, List.nil_append, List.append_nil, List.replicate_succ, List.replicate_zero, List.reduceReplicate, List.getElem?_cons_zero, List.getElem?_cons_succ, List.getElem?_nil, List.set_cons_zero, List.set_cons_succ, Nat.reduceAdd, Nat.reduceSub, Nat.reduceMul, Nat.reduceEqDiff, Nat.reduceLeDiff, Nat.reduceLT, Int.add_zero, Int.zero_add, List.map_reverse, Nat.reduceBEq, Int.reduceAdd, Int.reduceSub, Int.reduceLT, Int.reduceLE, Int.reduceEq, Int.reduceNeg, Int.reduceToNat, Int.reduceMul, Nat.zero_add, Nat.add_zero, if_true, if_false, reduceIte, decide_true, decide_false, decide_eq_true_eq, Bool.not_true, Bool.not_false, Bool.and_true, Bool.true_and, Bool.and_self, Bool.and_false, Bool.false_and, Bool.or_true, Bool.true_or, Bool.or_false, Bool.false_or, Bool.false_eq_true, Bool.true_eq_false, and_self, and_true, true_and, true_or, or_true, Bool.or_self, Bool.not_not, Function.comp_apply, ne_eq, not_true_eq_false, not_false_eq_true, allL_yes, List.filterMap_cons, List.filterMap_nil, e]
  · have s1 : (ifs (tst (bin2 (getv 2) (cst (.int 0)) eqD)) brk nxt) ⟨[.io, .v (.int number), .v (.int left), .own (parts.map .int), .v (.int style), .v (.int x), j6, j7, j8, j9], [.int a, .int b]⟩ = some (.nx ⟨[.io, .v (.int number), .v (.int left), .own (parts.map .int), .v (.int style), .v (.int x), j6, j7, j8, j9], [.int a, .int b]⟩) := by
      simp only [runV, runI, entV, entI, endV, endI, seqs, ifs, retv, reto, setv, seto, asg, drop1, retn, getv, geto, cst, bor, ofO, ofV, asL, seqD, bin2, bin2o, tst, chn, andv, orv, notv, ifv, andt, ort, nott, anil, acons, astar, astarB, mkT, mkL, call1, callo, callF, callFo, callKF, perm, rtD, S.setv, S.setO, szOk, subD_e, ltD_e, leD_e, gtD_e, geD_e, modD_e, fdivD_e, powD_e, addD_i, addD_l, addD_t, mulT_i, mulT_l, mulT_t, mulOk, negF, eqD, neD, isN, notN, ixD_t, ixD_l, ixD_f, lenD_t, lenD_l, lenD_f, lenL, tupD_t, tupD_l, tupD_f, tupL, listD_t, listD_l, listD_f, listL, intD_i, intD_b, absD_e, max2D, min2D, sumL, sumD_t, sumD_l, sortedV_t, sortedV_l, sortedV_f, sortedG_ints, isi_int, isi_bl, isi_tup, isi_lst, isi_str, isi_non, kb_ii, kb_ib, kb_is, kb_it, kb_il, kb_bi, kb_bb, kb_bs, kb_bt, kb_bl, kb_ti, kb_tb, kb_ts, kb_tt, kb_tl, kb_li, kb_lb, kb_ls, kb_lt, kb_ll, kb_si, kb_sb, kb_ss, kb_st, kb_sl, kb_ni, kb_nb, kb_ns, kb_nt, kb_nl, nxt, never, brk, ctn, itS, parA, mnil, mcv, mco, setAll, tgN, tgT, tgsC, tgs0, yes, lcStep, wipeS, wipeL, backS, backL, keepS, intsD_map, boolsD_map, sortRo, revF, revD, callN, callI, ownO, putO, ixO, setIx, appE, Option.bind_some, Option.map_some, Option.bind_none, Option.map_none, List.length_cons, List.length_nil, List.length_map, List.map_cons, List.map_nil, List.cons_append, List.nil_append, List.append_nil, List.replicate_succ, List.replicate_zero, List.reduceReplicate, List.getElem?_cons_zero, List.getElem?_cons_succ, List.getElem?_nil, List.set_cons_zero, List.set_cons_succ, Nat.reduceAdd, Nat.reduceSub, Nat.reduceMul, Nat.reduceEqDiff, Nat.reduceLeDiff, Nat.reduceLT, Int.add_zero, Int.zero_add, List.map_reverse, Nat.reduceBEq, Int.reduceAdd, Int.reduceSub, Int.reduceLT, Int.reduceLE, Int.reduceEq, Int.reduceNeg, Int.reduceToNat, Int.reduceMul, Nat.zero_add, Nat.add_zero, if_true, if_false, reduceIte, decide_true, decide_false, decide_eq_true_eq, Bool.not_true, Bool.not_false, Bool.and_true, Bool.true_and, Bool.and_self, Bool.and_false, Bool.false_and, Bool.or_true, Bool.true_or, Bool.or_false, Bool.false_or, Bool.false_eq_true, Bool.true_eq_false, and_self, and_true, true_and, true_or, or_true, Bool.or_self, Bool.not_not, Function.comp_apply, ne_eq, not_true_eq_false, not_false_eq_true, allL_yes, List.filterMap_cons, List.filterMap_nil, eqB_int, hc]
    have z2 := z9000 (Int.natAbs 2) (by decide)
    have z4 := z9000 (Int.natAbs 4) (by decide)
    have e2 := atI_ints [left, 3, 1 + left / 2, 9, 2 + number / 4] style h0 (by simpa using h5)
    generalize ht : [left, 3, 1 + left / 2, 9, 2 + number / 4].getD style.toNat 0 = t at *
    have s2 : ∃ high, high ≤ left ∧ (setv 6 (call1 (acons (getv 2) (acons (bin2 (mkT (acons (getv 2) (acons (cst (.int 3)) (acons (bin2 (cst (.int 1)) (bin2 (getv 2) (cst (.int 2)) fdivD) addD) (acons (cst (.int 9)) (acons (bin2 (cst (.int 2)) (bin2 (getv 1) (cst (.int 4)) fdivD) addD) anil)))))) (getv 4) ixD) anil)) min2D))
      ⟨[.io, .v (.int number), .v (.int left), .own (parts.map .int), .v (.int style), .v (.int x), j6, j7, j8, j9], [.int a, .int b]⟩ = some (.nx ⟨[.io, .v (.int number), .v (.int left), .own (parts.map .int), .v (.int style), .v (.int x), .v (.int high), j7, j8, j9], [.int a, .int b]⟩) := by
      refine ⟨if t < left then t else left, by split <;> omega, ?_⟩
      simp only [List.map_cons, List.map_nil] at e2
      simp only [runV, runI, entV, entI, endV, endI, seqs, ifs, retv, reto, setv, seto, asg, drop1, retn, getv, geto, cst, bor, ofO, ofV, asL, seqD, bin2, bin2o, tst, chn, andv, orv, notv, ifv, andt, ort, nott, anil, acons, astar, astarB, mkT, mkL, call1, callo, callF, callFo, callKF, perm, rtD, S.setv, S.setO, szOk, subD_e, ltD_e, leD_e, gtD_e, geD_e, modD_e, fdivD_e, powD_e, addD_i, addD_l, addD_t, mulT_i, mulT_l, mulT_t, mulOk, negF, eqD, neD, isN, notN, ixD_t, ixD_l, ixD_f, lenD_t, lenD_l, lenD_f, lenL, tupD_t, tupD_l, tupD_f, tupL, listD_t, listD_l, listD_f, listL, intD_i, intD_b, absD_e, max2D, min2D, sumL, sumD_t, sumD_l, sortedV_t, sortedV_l, sortedV_f, sortedG_ints, isi_int, isi_bl, isi_tup, isi_lst, isi_str, isi_non, kb_ii, kb_ib, kb_is, kb_it, kb_il, kb_bi, kb_bb, kb_bs, kb_bt, kb_bl, kb_ti, kb_tb, kb_ts, kb_tt, kb_tl, kb_li, kb_lb, kb_ls, kb_lt, kb_ll, kb_si, kb_sb, kb_ss, kb_st, kb_sl, kb_ni, kb_nb, kb_ns, kb_nt, kb_nl, nxt, never, brk, ctn, itS, parA, mnil, mcv, mco, setAll, tgN, tgT, tgsC, tgs0, yes, lcStep, wipeS, wipeL, backS, backL, keepS, intsD_map, boolsD_map, sortRo, revF, revD, callN, callI, ownO, putO, ixO, setIx, appE, Option.bind_some, Option.map_some, Option.bind_none, Option.map_none, List.length_cons, List.length_nil, List.length_map, List.map_cons, List.map_nil, List.cons_append, List.nil_append, List.append_nil, List.replicate_succ, List.replicate_zero, List.reduceReplicate, List.getElem?_cons_zero, List.getElem?_cons_succ, List.getElem?_nil, List.set_cons_zero, List.set_cons_succ, Nat.reduceAdd, Nat.reduceSub, Nat.reduceMul, Nat.reduceEqDiff, Nat.reduceLeDiff, Nat.reduceLT, Int.add_zero, Int.zero_add, List.map_reverse, Nat.reduceBEq, Int.reduceAdd, Int.reduceSub, Int.reduceLT, Int.reduceLE, Int.reduceEq, Int.reduceNeg, Int.reduceToNat, Int.reduceMul, Nat.zero_add, Nat.add_zero, if_true, if_false, reduceIte, decide_true, decide_false, decide_eq_true_eq, Bool.not_true, Bool.not_false, Bool.and_true, Bool.true_and, Bool.and_self, Bool.and_false, Bool.false_and, Bool.or_true, Bool.true_or, Bool.or_false, Bool.false_or, Bool.false_eq_true, Bool.true_eq_false, and_self, and_true, true_and, true_or, or_true, Bool.or_self, Bool.not_not, Function.comp_apply, ne_eq, not_true_eq_false, not_false_eq_true, allL_yes, List.filterMap_cons, List.filterMap_nil, z2, z4, e2]
    obtain ⟨high, hh, s2⟩ := s2
    have hM : ∃ M, (if high > 1 then high else 1) = M ∧ 1 ≤ M ∧ M ≤ 600 := ⟨_, rfl, by split <;> omega, by split <;> omega⟩
    obtain ⟨M, hM, m1, m2⟩ := hM
    obtain ⟨v, a', b', d1, v0, v1⟩ := e_draw a b M (by omega) (by omega)
    have s3 : (setv 7 (bin2 (cst (.int 1)) (callI 0 F__law_draw (acons (call1 (acons (cst (.int 1)) (acons (getv 6) anil)) max2D) anil)) addD)) ⟨[.io, .v (.int number), .v (.int left), .own (parts.map .int), .v (.int style), .v (.int x), .v (.int high), j7, j8, j9], [.int a, .int b]⟩
      = some (.nx ⟨[.io, .v (.int number), .v (.int left), .own (parts.map .int), .v (.int style), .v (.int x), .v (.int high), .v (.int (1 + v)), j8, j9], [.int a', .int b']⟩) := by
      simp only [runV, runI, entV, entI, endV, endI, seqs, ifs, retv, reto, setv, seto, asg, drop1, retn, getv, geto, cst, bor, ofO, ofV, asL, seqD, bin2, bin2o, tst, chn, andv, orv, notv, ifv, andt, ort, nott, anil, acons, astar, astarB, mkT, mkL, call1, callo, callF, callFo, callKF, perm, rtD, S.setv, S.setO, szOk, subD_e, ltD_e, leD_e, gtD_e, geD_e, modD_e, fdivD_e, powD_e, addD_i, addD_l, addD_t, mulT_i, mulT_l, mulT_t, mulOk, negF, eqD, neD, isN, notN, ixD_t, ixD_l, ixD_f, lenD_t, lenD_l, lenD_f, lenL, tupD_t, tupD_l, tupD_f, tupL, listD_t, listD_l, listD_f, listL, intD_i, intD_b, absD_e, max2D, min2D, sumL, sumD_t, sumD_l, sortedV_t, sortedV_l, sortedV_f, sortedG_ints, isi_int, isi_bl, isi_tup, isi_lst, isi_str, isi_non, kb_ii, kb_ib, kb_is, kb_it, kb_il, kb_bi, kb_bb, kb_bs, kb_bt, kb_bl, kb_ti, kb_tb, kb_ts, kb_tt, kb_tl, kb_li, kb_lb, kb_ls, kb_lt, kb_ll, kb_si, kb_sb, kb_ss, kb_st, kb_sl, kb_ni, kb_nb, kb_ns, kb_nt, kb_nl, nxt, never, brk, ctn, itS, parA, mnil, mcv, mco, setAll, tgN, tgT, tgsC, tgs0, yes, lcStep, wipeS, wipeL, backS, backL, keepS, intsD_map, boolsD_map, sortRo, revF, revD, callN, callI, ownO, putO, ixO, setIx, appE, Option.bind_some, Option.map_some, Option.bind_none, Option.map_none, List.length_cons, List.length_nil, List.length_map, List.map_cons, List.map_nil, List.cons_append, List.nil_append, List.append_nil, List.replicate_succ, List.replicate_zero, List.reduceReplicate, List.getElem?_cons_zero, List.getElem?_cons_succ, List.getElem?_nil, List.set_cons_zero, List.set_cons_succ, Nat.reduceAdd, Nat.reduceSub, Nat.reduceMul, Nat.reduceEqDiff, Nat.reduceLeDiff, Nat.reduceLT, Int.add_zero, Int.zero_add, List.map_reverse, Nat.reduceBEq, Int.reduceAdd, Int.reduceSub, Int.reduceLT, Int.reduceLE, Int.reduceEq, Int.reduceNeg, Int.reduceToNat, Int.reduceMul, Nat.zero_add, Nat.add_zero, if_true, if_false, reduceIte, decide_true, decide_false, decide_eq_true_eq, Bool.not_true, Bool.not_false, Bool.and_true, Bool.true_and, Bool.and_self, Bool.and_false, Bool.false_and, Bool.or_true, Bool.true_or, Bool.or_false, Bool.false_or, Bool.false_eq_true, Bool.true_eq_false, and_self, and_true, true_and, true_or, or_true, Bool.or_self, Bool.not_not, Function.comp_apply, ne_eq, not_true_eq_false, not_false_eq_true, allL_yes, List.filterMap_cons, List.filterMap_nil, putO, hM, d1]
    have hS : ∃ m, m = (if style = 1 then (5 : Int) else 3) ∧ 0 < m ∧ m < 1000000 := ⟨_, rfl, by split <;> omega, by split <;> omega⟩
    obtain ⟨m, hm, k0, k1⟩ := hS
    obtain ⟨v2, a2, b2, d2, w0, w1⟩ := e_draw a' b' m k0 k1
    have s4 : (setv 8 (bin2 (cst (.int 1)) (callI 0 F__law_draw (acons (ifv (tst (bin2 (getv 4) (cst (.int 1)) neD)) (cst (.int 3)) (cst (.int 5))) anil)) addD)) ⟨[.io, .v (.int number), .v (.int left), .own (parts.map .int), .v (.int style), .v (.int x), .v (.int high), .v (.int (1 + v)), j8, j9], [.int a', .int b']⟩
      = some (.nx ⟨[.io, .v (.int number), .v (.int left), .own (parts.map .int), .v (.int style), .v (.int x), .v (.int high), .v (.int (1 + v)), .v (.int (1 + v2)), j9], [.int a2, .int b2]⟩) := by
      by_cases hs : style = 1
      · rw [hm, if_pos hs] at d2
        simp only [runV, runI, entV, entI, endV, endI, seqs, ifs, retv, reto, setv, seto, asg, drop1, retn, getv, geto, cst, bor, ofO, ofV, asL, seqD, bin2, bin2o, tst, chn, andv, orv, notv, ifv, andt, ort, nott, anil, acons, astar, astarB, mkT, mkL, call1, callo, callF, callFo, callKF, perm, rtD, S.setv, S.setO, szOk, subD_e, ltD_e, leD_e, gtD_e, geD_e, modD_e, fdivD_e, powD_e, addD_i, addD_l, addD_t, mulT_i, mulT_l, mulT_t, mulOk, negF, eqD, neD, isN, notN, ixD_t, ixD_l, ixD_f, lenD_t, lenD_l, lenD_f, lenL, tupD_t, tupD_l, tupD_f, tupL, listD_t, listD_l, listD_f, listL, intD_i, intD_b, absD_e, max2D, min2D, sumL, sumD_t, sumD_l, sortedV_t, sortedV_l, sortedV_f, sortedG_ints, isi_int, isi_bl, isi_tup, isi_lst, isi_str, isi_non, kb_ii, kb_ib, kb_is, kb_it, kb_il, kb_bi, kb_bb, kb_bs, kb_bt, kb_bl, kb_ti, kb_tb, kb_ts, kb_tt, kb_tl, kb_li, kb_lb, kb_ls, kb_lt, kb_ll, kb_si, kb_sb, kb_ss, kb_st, kb_sl, kb_ni, kb_nb, kb_ns, kb_nt, kb_nl, nxt, never, brk, ctn, itS, parA, mnil, mcv, mco, setAll, tgN, tgT, tgsC, tgs0, yes, lcStep, wipeS, wipeL, backS, backL, keepS, intsD_map, boolsD_map, sortRo, revF, revD, callN, callI, ownO, putO, ixO, setIx, appE, Option.bind_some, Option.map_some, Option.bind_none, Option.map_none, List.length_cons, List.length_nil, List.length_map, List.map_cons, List.map_nil, List.cons_append, List.nil_append, List.append_nil, List.replicate_succ, List.replicate_zero, List.reduceReplicate, List.getElem?_cons_zero, List.getElem?_cons_succ, List.getElem?_nil, List.set_cons_zero, List.set_cons_succ, Nat.reduceAdd, Nat.reduceSub, Nat.reduceMul, Nat.reduceEqDiff, Nat.reduceLeDiff, Nat.reduceLT, Int.add_zero, Int.zero_add, List.map_reverse, Nat.reduceBEq, Int.reduceAdd, Int.reduceSub, Int.reduceLT, Int.reduceLE, Int.reduceEq, Int.reduceNeg, Int.reduceToNat, Int.reduceMul, Nat.zero_add, Nat.add_zero, if_true, if_false, reduceIte, decide_true, decide_false, decide_eq_true_eq, Bool.not_true, Bool.not_false, Bool.and_true, Bool.true_and, Bool.and_self, Bool.and_false, Bool.false_and, Bool.or_true, Bool.true_or, Bool.or_false, Bool.false_or, Bool.false_eq_true, Bool.true_eq_false, and_self, and_true, true_and, true_or, or_true, Bool.or_self, Bool.not_not, Function.comp_apply, ne_eq, not_true_eq_false, not_false_eq_true, allL_yes, List.filterMap_cons, List.filterMap_nil, putO, eqB_int, hs, d2]
      · rw [hm, if_neg hs] at d2
        simp only [runV, runI, entV, entI, endV, endI, seqs, ifs, retv, reto, setv, seto, asg, drop1, retn, getv, geto, cst, bor, ofO, ofV, asL, seqD, bin2, bin2o, tst, chn, andv, orv, notv, ifv, andt, ort, nott, anil, acons, astar, astarB, mkT, mkL, call1, callo, callF, callFo, callKF, perm, rtD, S.setv, S.setO, szOk, subD_e, ltD_e, leD_e, gtD_e, geD_e, modD_e, fdivD_e, powD_e, addD_i, addD_l, addD_t, mulT_i, mulT_l, mulT_t, mulOk, negF, eqD, neD, isN, notN, ixD_t, ixD_l, ixD_f, lenD_t, lenD_l, lenD_f, lenL, tupD_t, tupD_l, tupD_f, tupL, listD_t, listD_l, listD_f, listL, intD_i, intD_b, absD_e, max2D, min2D, sumL, sumD_t, sumD_l, sortedV_t, sortedV_l, sortedV_f, sortedG_ints, isi_int, isi_bl, isi_tup, isi_lst, isi_str, isi_non, kb_ii, kb_ib, kb_is, kb_it, kb_il, kb_bi, kb_bb, kb_bs, kb_bt, kb_bl, kb_ti, kb_tb, kb_ts, kb_tt, kb_tl, kb_li, kb_lb, kb_ls, kb_lt, kb_ll, kb_si, kb_sb, kb_ss, kb_st, kb_sl, kb_ni, kb_nb, kb_ns, kb_nt, kb_nl, nxt, never, brk, ctn, itS, parA, mnil, mcv, mco, setAll, tgN, tgT, tgsC, tgs0, yes, lcStep, wipeS, wipeL, backS, backL, keepS, intsD_map, boolsD_map, sortRo, revF, revD, callN, callI, ownO, putO, ixO, setIx, appE, Option.bind_some, Option.map_some, Option.bind_none, Option.map_none, List.length_cons, List.length_nil, List.length_map, List.map_cons, List.map_nil, List.cons_append, List.nil_append, List.append_nil, List.replicate_succ, List.replicate_zero, List.reduceReplicate, List.getElem?_cons_zero, List.getElem?_cons_succ, List.getElem?_nil, List.set_cons_zero, List.set_cons_succ, Nat.reduceAdd, Nat.reduceSub, Nat.reduceMul, Nat.reduceEqDiff, Nat.reduceLeDiff, Nat.reduceLT, Int.add_zero, Int.zero_add, List.map_reverse, Nat.reduceBEq, Int.reduceAdd, Int.reduceSub, Int.reduceLT, Int.reduceLE, Int.reduceEq, Int.reduceNeg, Int.reduceToNat, Int.reduceMul, Nat.zero_add, Nat.add_zero, if_true, if_false, reduceIte, decide_true, decide_false, decide_eq_true_eq, Bool.not_true, Bool.not_false, Bool.and_true, Bool.true_and, Bool.and_self, Bool.and_false, Bool.false_and, Bool.or_true, Bool.true_or, Bool.or_false, Bool.false_or, Bool.false_eq_true, Bool.true_eq_false, and_self, and_true, true_and, true_or, or_true, Bool.or_self, Bool.not_not, Function.comp_apply, ne_eq, not_true_eq_false, not_false_eq_true, allL_yes, List.filterMap_cons, List.filterMap_nil, putO, eqB_int, hs, d2]
    obtain ⟨s', e1, left', parts', a3, b3, q5, q6, q8, q9, rfl, p1, p2, p3⟩ := forF_inv (t := tgN 9) (b := rowB2) D.int (rowI2 number style (1 + v)) ((List.range (1 + v2).toNat).map fun i => (0 : Int) + (i : Nat))
      ⟨[.io, .v (.int number), .v (.int left), .own (parts.map .int), .v (.int style), .v (.int x), .v (.int high), .v (.int (1 + v)), .v (.int (1 + v2)), j9], [.int a2, .int b2]⟩ (fun y _ s hs => row_step2 number style (1 + v) hn (by omega) y s hs) ⟨left, parts, a2, b2, _, _, _, _, rfl, h1, h2, h3⟩
    rw [← rng_ints] at e1
    have s5 := fors_e (itR1_e (f := acons (getv 8) anil) (s := ⟨[.io, .v (.int number), .v (.int left), .own (parts.map .int), .v (.int style), .v (.int x), .v (.int high), .v (.int (1 + v)), .v (.int (1 + v2)), j9], [.int a2, .int b2]⟩) (s' := ⟨[.io, .v (.int number), .v (.int left), .own (parts.map .int), .v (.int style), .v (.int x), .v (.int high), .v (.int (1 + v)), .v (.int (1 + v2)), j9], [.int a2, .int b2]⟩) (i := 1 + v2) (by simp only [runV, runI, entV, entI, endV, endI, seqs, ifs, retv, reto, setv, seto, asg, drop1, retn, getv, geto, cst, bor, ofO, ofV, asL, seqD, bin2, bin2o, tst, chn, andv, orv, notv, ifv, andt, ort, nott, anil, acons, astar, astarB, mkT, mkL, call1, callo, callF, callFo, callKF, perm, rtD, S.setv, S.setO, szOk, subD_e, ltD_e, leD_e, gtD_e, geD_e, modD_e, fdivD_e, powD_e, addD_i, addD_l, addD_t, mulT_i, mulT_l, mulT_t, mulOk, negF, eqD, neD, isN, notN, ixD_t, ixD_l, ixD_f, lenD_t, lenD_l, lenD_f, lenL, tupD_t, tupD_l, tupD_f, tupL, listD_t, listD_l, listD_f, listL, intD_i, intD_b, absD_e, max2D, min2D, sumL, sumD_t, sumD_l, sortedV_t, sortedV_l, sortedV_f, sortedG_ints, isi_int, isi_bl, isi_tup, isi_lst, isi_str, isi_non, kb_ii, kb_ib, kb_is, kb_it, kb_il, kb_bi, kb_bb, kb_bs, kb_bt, kb_bl, kb_ti, kb_tb, kb_ts, kb_tt, kb_tl, kb_li, kb_lb, kb_ls, kb_lt, kb_ll, kb_si, kb_sb, kb_ss, kb_st, kb_sl, kb_ni, kb_nb, kb_ns, kb_nt, kb_nl, nxt, never, brk, ctn, itS, parA, mnil, mcv, mco, setAll, tgN, tgT, tgsC, tgs0, yes, lcStep, wipeS, wipeL, backS, backL, keepS, intsD_map, boolsD_map, sortRo, revF, revD, callN, callI, ownO, putO, ixO, setIx, appE, Option.bind_some, Option.map_some, Option.bind_none, Option.map_none, List.length_cons, List.length_nil, List.length_map, List.map_cons, List.map_nil, List.cons_append, List.nil_append, List.append_nil, List.replicate_succ, List.replicate_zero, List.reduceReplicate, List.getElem?_cons_zero, List.getElem?_cons_succ, List.getElem?_nil, List.set_cons_zero, List.set_cons_succ, Nat.reduceAdd, Nat.reduceSub, Nat.reduceMul, Nat.reduceEqDiff, Nat.reduceLeDiff, Nat.reduceLT, Int.add_zero, Int.zero_add, List.map_reverse, Nat.reduceBEq, Int.reduceAdd, Int.reduceSub, Int.reduceLT, Int.reduceLE, Int.reduceEq, Int.reduceNeg, Int.reduceToNat, Int.reduceMul, Nat.zero_add, Nat.add_zero, if_true, if_false, reduceIte, decide_true, decide_false, decide_eq_true_eq, Bool.not_true, Bool.not_false, Bool.and_true, Bool.true_and, Bool.and_self, Bool.and_false, Bool.false_and, Bool.or_true, Bool.true_or, Bool.or_false, Bool.false_or, Bool.false_eq_true, Bool.true_eq_false, and_self, and_true, true_and, true_or, or_true, Bool.or_self, Bool.not_not, Function.comp_apply, ne_eq, not_true_eq_false, not_false_eq_true, allL_yes, List.filterMap_cons, List.filterMap_nil]) (r62_s _ (by omega) (by omega))) e1
    exact ⟨_, .inl (by unfold rowB; rw [seqs_nx s1, seqs_nx s2, seqs_nx s3, seqs_nx s4]; exact s5), left', parts', a3, b3, _, _, _, _, _, rfl, p1, p2, p3⟩
theorem sortI_rev (l : List Int) : (sortI l).reverse = sortR l := rfl
theorem e_row (a b number : Int) (h0 : 0 ≤ number) (hn : number ≤ 600) : ∃ (r : List Int) (a' b' : Int), F__law_row [.int a, .int b] [.int number] = some (.v (.tup (r.map .int)), [.int a', .int b']) ∧ Ok r := by
  obtain ⟨v, a1, b1, d1, v0, v1⟩ := e_draw a b 5 (by omega) (by omega)
  have s1 : (parA [2, 3, 4] (mcv (getv 1) (mco (mkL anil) (mcv (callI 0 F__law_draw (acons (cst (.int 5)) anil)) mnil)))) ⟨[.io, .v (.int number), .no, .no, .no, .no, .no, .no, .no, .no], [.int a, .int b]⟩
      = some (.nx ⟨[.io, .v (.int number), .v (.int number), .own [], .v (.int v), .no, .no, .no, .no, .no], [.int a1, .int b1]⟩) := by
    simp only [runV, runI, entV, entI, endV, endI, seqs, ifs, retv, reto, setv, seto, asg, drop1, retn, getv, geto, cst, bor, ofO, ofV, asL, seqD, bin2, bin2o, tst, chn, andv, orv, notv, ifv, andt, ort, nott, anil, acons, astar, astarB, mkT, mkL, call1, callo, callF, callFo, callKF, perm, rtD, S.setv, S.setO, szOk, subD_e, ltD_e, leD_e, gtD_e, geD_e, modD_e, fdivD_e, powD_e, addD_i, addD_l, addD_t, mulT_i, mulT_l, mulT_t, mulOk, negF, eqD, neD, isN, notN, ixD_t, ixD_l, ixD_f, lenD_t, lenD_l, lenD_f, lenL, tupD_t, tupD_l, tupD_f, tupL, listD_t, listD_l, listD_f, listL, intD_i, intD_b, absD_e, max2D, min2D, sumL, sumD_t, sumD_l, sortedV_t, sortedV_l, sortedV_f, sortedG_ints, isi_int, isi_bl, isi_tup, isi_lst, isi_str, isi_non, kb_ii, kb_ib, kb_is, kb_it, kb_il, kb_bi, kb_bb, kb_bs, kb_bt, kb_bl, kb_ti, kb_tb, kb_ts, kb_tt, kb_tl, kb_li, kb_lb, kb_ls, kb_lt, kb_ll, kb_si, kb_sb, kb_ss, kb_st, kb_sl, kb_ni, kb_nb, kb_ns, kb_nt, kb_nl, nxt, never, brk, ctn, itS, parA, mnil, mcv, mco, setAll, tgN, tgT, tgsC, tgs0, yes, lcStep, wipeS, wipeL, backS, backL, keepS, intsD_map, boolsD_map, sortRo, revF, revD, callN, callI, ownO, putO, ixO, setIx, appE, Option.bind_some, Option.map_some, Option.bind_none, Option.map_none, List.length_cons, List.length_nil, List.length_map, List.map_cons, List.map_nil, List.cons_append, List.nil_append, List.append_nil, List.replicate_succ, List.replicate_zero, List.reduceReplicate, List.getElem?_cons_zero, List.getElem?_cons_succ, List.getElem?_nil, List.set_cons_zero, List.set_cons_succ, Nat.reduceAdd, Nat.reduceSub, Nat.reduceMul, Nat.reduceEqDiff, Nat.reduceLeDiff, Nat.reduceLT, Int.add_zero, Int.zero_add, List.map_reverse, Nat.reduceBEq, Int.reduceAdd, Int.reduceSub, Int.reduceLT, Int.reduceLE, Int.reduceEq, Int.reduceNeg, Int.reduceToNat, Int.reduceMul, Nat.zero_add, Nat.add_zero, if_true, if_false, reduceIte, decide_true, decide_false, decide_eq_true_eq, Bool.not_true, Bool.not_false, Bool.and_true, Bool.true_and, Bool.and_self, Bool.and_false, Bool.false_and, Bool.or_true, Bool.true_or, Bool.or_false, Bool.false_or, Bool.false_eq_true, Bool.true_eq_false, and_self, and_true, true_and, true_or, or_true, Bool.or_self, Bool.not_not, Function.comp_apply, ne_eq, not_true_eq_false, not_false_eq_true, allL_yes, List.filterMap_cons, List.filterMap_nil, putO, d1]
  obtain ⟨s', e1, left', parts, a3, b3, q5, q6, q7, q8, q9, rfl, p1, p2, p3⟩ := forF_inv (t := tgN 5) (b := rowB) D.int (rowI number v) ((List.range number.toNat).map fun i => (0 : Int) + (i : Nat))
      ⟨[.io, .v (.int number), .v (.int number), .own [], .v (.int v), .no, .no, .no, .no, .no], [.int a1, .int b1]⟩ (fun y _ s hs => row_step number v hn v0 v1 y s hs) ⟨number, [], a1, b1, _, _, _, _, _, rfl, h0, by simp, by simp⟩
  rw [← rng_ints] at e1
  have s2 := fors_e (itR1_e (f := acons (getv 1) anil) (s := ⟨[.io, .v (.int number), .v (.int number), .own [], .v (.int v), .no, .no, .no, .no, .no], [.int a1, .int b1]⟩) (s' := ⟨[.io, .v (.int number), .v (.int number), .own [], .v (.int v), .no, .no, .no, .no, .no], [.int a1, .int b1]⟩) (i := number) (by simp only [runV, runI, entV, entI, endV, endI, seqs, ifs, retv, reto, setv, seto, asg, drop1, retn, getv, geto, cst, bor, ofO, ofV, asL, seqD, bin2, bin2o, tst, chn, andv, orv, notv, ifv, andt, ort, nott, anil, acons, astar, astarB, mkT, mkL, call1, callo, callF, callFo, callKF, perm, rtD, S.setv, S.setO, szOk, subD_e, ltD_e, leD_e, gtD_e, geD_e, modD_e, fdivD_e, powD_e, addD_i, addD_l, addD_t, mulT_i, mulT_l, mulT_t, mulOk, negF, eqD, neD, isN, notN, ixD_t, ixD_l, ixD_f, lenD_t, lenD_l, lenD_f, lenL, tupD_t, tupD_l, tupD_f, tupL, listD_t, listD_l, listD_f, listL, intD_i, intD_b, absD_e, max2D, min2D, sumL, sumD_t, sumD_l, sortedV_t, sortedV_l, sortedV_f, sortedG_ints, isi_int, isi_bl, isi_tup, isi_lst, isi_str, isi_non, kb_ii, kb_ib, kb_is, kb_it, kb_il, kb_bi, kb_bb, kb_bs, kb_bt, kb_bl, kb_ti, kb_tb, kb_ts, kb_tt, kb_tl, kb_li, kb_lb, kb_ls, kb_lt, kb_ll, kb_si, kb_sb, kb_ss, kb_st, kb_sl, kb_ni, kb_nb, kb_ns, kb_nt, kb_nl, nxt, never, brk, ctn, itS, parA, mnil, mcv, mco, setAll, tgN, tgT, tgsC, tgs0, yes, lcStep, wipeS, wipeL, backS, backL, keepS, intsD_map, boolsD_map, sortRo, revF, revD, callN, callI, ownO, putO, ixO, setIx, appE, Option.bind_some, Option.map_some, Option.bind_none, Option.map_none, List.length_cons, List.length_nil, List.length_map, List.map_cons, List.map_nil, List.cons_append, List.nil_append, List.append_nil, List.replicate_succ, List.replicate_zero, List.reduceReplicate, List.getElem?_cons_zero, List.getElem?_cons_succ, List.getElem?_nil, List.set_cons_zero, List.set_cons_succ, Nat.reduceAdd, Nat.reduceSub, Nat.reduceMul, Nat.reduceEqDiff, Nat.reduceLeDiff, Nat.reduceLT, Int.add_zero, Int.zero_add, List.map_reverse, Nat.reduceBEq, Int.reduceAdd, Int.reduceSub, Int.reduceLT, Int.reduceLE, Int.reduceEq, Int.reduceNeg, Int.reduceToNat, Int.reduceMul, Nat.zero_add, Nat.add_zero, if_true, if_false, reduceIte, decide_true, decide_false, decide_eq_true_eq, Bool.not_true, Bool.not_false, Bool.and_true, Bool.true_and, Bool.and_self, Bool.and_false, Bool.false_and, Bool.or_true, Bool.true_or, Bool.or_false, Bool.false_or, Bool.false_eq_true, Bool.true_eq_false, and_self, and_true, true_and, true_or, or_true, Bool.or_self, Bool.not_not, Function.comp_apply, ne_eq, not_true_eq_false, not_false_eq_true, allL_yes, List.filterMap_cons, List.filterMap_nil]) (r62_s _ (by omega) (by omega))) e1
  refine ⟨sortR parts, a3, b3, runI_e ⟨[.io, .v (.int number), .no, .no, .no, .no, .no, .no, .no, .no], [.int a, .int b]⟩ rfl rfl (o := some (.rt (.tup ((sortR parts).map .int)) ⟨[.io, .v (.int number), .v (.int left'), .own (parts.map .int), .v (.int v), q5, q6, q7, q8, q9], [.int a3, .int b3]⟩)) ?_ rfl, sortR_row p2, by rw [sum_perm (sortR_perm _)]; omega⟩
  unfold rowB rowB2 at s2
  unfold g__law_row
  rw [seqs_nx s1, seqs_nx s2, ← sortI_rev]
  simp only [runV, runI, entV, entI, endV, endI, seqs, ifs, retv, reto, setv, seto, asg, drop1, retn, getv, geto, cst, bor, ofO, ofV, asL, seqD, bin2, bin2o, tst, chn, andv, orv, notv, ifv, andt, ort, nott, anil, acons, astar, astarB, mkT, mkL, call1, callo, callF, callFo, callKF, perm, rtD, S.setv, S.setO, szOk, subD_e, ltD_e, leD_e, gtD_e, geD_e, modD_e, fdivD_e, powD_e, addD_i, addD_l, addD_t, mulT_i, mulT_l, mulT_t, mulOk, negF, eqD, neD, isN, notN, ixD_t, ixD_l, ixD_f, lenD_t, lenD_l, lenD_f, lenL, tupD_t, tupD_l, tupD_f, tupL, listD_t, listD_l, listD_f, listL, intD_i, intD_b, absD_e, max2D, min2D, sumL, sumD_t, sumD_l, sortedV_t, sortedV_l, sortedV_f, sortedG_ints, isi_int, isi_bl, isi_tup, isi_lst, isi_str, isi_non, kb_ii, kb_ib, kb_is, kb_it, kb_il, kb_bi, kb_bb, kb_bs, kb_bt, kb_bl, kb_ti, kb_tb, kb_ts, kb_tt, kb_tl, kb_li, kb_lb, kb_ls, kb_lt, kb_ll, kb_si, kb_sb, kb_ss, kb_st, kb_sl, kb_ni, kb_nb, kb_ns, kb_nt, kb_nl, nxt, never, brk, ctn, itS, parA, mnil, mcv, mco, setAll, tgN, tgT, tgsC, tgs0, yes, lcStep, wipeS, wipeL, backS, backL, keepS, intsD_map, boolsD_map, sortRo, revF, revD, callN, callI, ownO, putO, ixO, setIx, appE, Option.bind_some, Option.map_some, Option.bind_none, Option.map_none, List.length_cons, List.length_nil, List.length_map, List.map_cons, List.map_nil, List.cons_append, List.nil_append, List.append_nil, List.replicate_succ, List.replicate_zero, List.reduceReplicate, List.getElem?_cons_zero, List.getElem?_cons_succ, List.getElem?_nil, List.set_cons_zero, List.set_cons_succ, Nat.reduceAdd, Nat.reduceSub, Nat.reduceMul, Nat.reduceEqDiff, Nat.reduceLeDiff, Nat.reduceLT, Int.add_zero, Int.zero_add, List.map_reverse, Nat.reduceBEq, Int.reduceAdd, Int.reduceSub, Int.reduceLT, Int.reduceLE, Int.reduceEq, Int.reduceNeg, Int.reduceToNat, Int.reduceMul, Nat.zero_add, Nat.add_zero, if_true, if_false, reduceIte, decide_true, decide_false, decide_eq_true_eq, Bool.not_true, Bool.not_false, Bool.and_true, Bool.true_and, Bool.and_self, Bool.and_false, Bool.false_and, Bool.or_true, Bool.true_or, Bool.or_false, Bool.false_or, Bool.false_eq_true, Bool.true_eq_false, and_self, and_true, true_and, true_or, or_true, Bool.or_self, Bool.not_not, Function.comp_apply, ne_eq, not_true_eq_false, not_false_eq_true, allL_yes, List.filterMap_cons, List.filterMap_nil]
end K65
namespace K65
open PySem L2 DL DLT PyProof.Rows
theorem ups_mem {k : Nat} {p : Int} : p ∈ ((List.range k).map fun i => (1 : Int) + (i : Nat)) ↔ 1 ≤ p ∧ p ≤ k := by
  rw [List.mem_map]
  refine ⟨fun ⟨i, hi, e⟩ => ?_, fun ⟨h1, h2⟩ => ⟨(p - 1).toNat, List.mem_range.mpr (by omega), by omega⟩⟩
  have := List.mem_range.mp hi
  omega
theorem rowsW_ok : ∀ (f : Nat) (n m : Int), 0 ≤ n → n < f → ∀ r ∈ rowsW f n m, Row r ∧ r.sum = n ∧ ∀ x ∈ r, x ≤ m
  | 0, n, m, _, _, r, h => by simp [rowsW] at h
  | f + 1, n, m, h0, hf, r, h => by
    unfold rowsW at h
    by_cases hn : n = 0
    · rw [if_pos hn] at h
      have := List.mem_singleton.mp h
      subst this
      exact ⟨⟨.nil, by simp⟩, by simp [hn], by simp⟩
    · rw [if_neg hn] at h
      obtain ⟨p, hp, h⟩ := List.mem_flatMap.mp h
      have ⟨p1, p2⟩ := ups_mem.mp hp
      obtain ⟨t, ht, rfl⟩ := List.mem_map.mp h
      obtain ⟨⟨a1, a2⟩, a3, a4⟩ := rowsW_ok f (n - p) p (by omega) (by omega) t ht
      refine ⟨⟨List.pairwise_cons.mpr ⟨fun y hy => a4 y hy, a1⟩, fun y hy => ?_⟩, by rw [List.sum_cons, a3]; omega, fun y hy => ?_⟩
      · rcases List.mem_cons.mp hy with e | e
        · omega
        · exact a2 y e
      · rcases List.mem_cons.mp hy with e | e
        · omega
        · have := a4 y e; omega
theorem flat_len (g : Int → List (List Int)) (n : Nat) : ∀ k ≤ n, (∀ p : Int, 1 ≤ p → p ≤ k → (g p).length ≤ 2 ^ (n - p.toNat)) → (((List.range k).map fun i => (1 : Int) + (i : Nat)).flatMap g).length + 2 ^ (n - k) ≤ 2 ^ n
  | 0, _, _ => by simp
  | k + 1, hk, h => by
    have ih := flat_len g n k (by omega) fun p h1 h2 => h p h1 (by omega)
    rw [List.range_succ, List.map_append, List.flatMap_append, List.length_append]
    have := h (1 + (k : Nat)) (by omega) (by omega)
    have e : (1 + (k : Int)).toNat = k + 1 := by omega
    rw [e] at this
    have e2 : 2 ^ (n - k) = 2 ^ (n - (k + 1)) + 2 ^ (n - (k + 1)) := by
      have : n - k = (n - (k + 1)) + 1 := by omega
      rw [this, Nat.pow_succ]; omega
    simp only [List.map_cons, List.map_nil, List.flatMap_cons, List.flatMap_nil, List.append_nil]
    omega
theorem rowsW_len : ∀ (f : Nat) (n m : Int), 0 ≤ n → (rowsW f n m).length ≤ 2 ^ n.toNat
  | 0, n, m, _ => by simp [rowsW]
  | f + 1, n, m, h0 => by
    unfold rowsW
    by_cases hn : n = 0
    · subst hn; simp
    · rw [if_neg hn]
      have := flat_len (fun p => (rowsW f (n - p) p).map fun r => p :: r) n.toNat (min n m).toNat (by omega) fun p h1 h2 => by
        rw [List.length_map]
        have := rowsW_len f (n - p) p (by omega)
        have e : (n - p).toNat = n.toNat - p.toNat := by omega
        rwa [e] at this
      exact Nat.le_trans (Nat.le_add_right _ _) this
def rwB : S → Option Fl := (drop1 (appE 2 (mkT (acons (getv 3) (astar (getv 4) anil)))))
theorem rw_inner (n m p : Int) (rs acc : List (List Int)) (j : Sl) (hl : ∀ r ∈ rs, r.length ≤ 1000) (hz : acc.length + rs.length ≤ 16777216) : ∃ j', forF (tgN 4) rwB (rs.map rowD) ⟨[.v (.int n), .v (.int m), .own (acc.map rowD), .v (.int p), j], []⟩
    = some (.nx ⟨[.v (.int n), .v (.int m), .own ((acc ++ rs.map fun r => p :: r).map rowD), .v (.int p), j'], []⟩) := by
  obtain ⟨s', e1, -, j', e2⟩ := forF_rest (t := tgN 4) (b := rwB) rowD
      (fun rest (acc : List (List Int)) s => acc.length + rest.length ≤ 16777216 ∧ ∃ j, s = (⟨[.v (.int n), .v (.int m), .own (acc.map rowD), .v (.int p), j], []⟩ : S))
      (fun acc r => acc ++ [p :: r]) rs acc ⟨[.v (.int n), .v (.int m), .own (acc.map rowD), .v (.int p), j], []⟩ (fun r rest acc s hx hs => by
        obtain ⟨h1, j, rfl⟩ := hs
        simp only [List.length_cons] at h1
        have hr := hl r hx
        have z1 : acc.length ≤ 16777215 := by omega
        have z2 : r.length ≤ 16777215 := by omega
        refine ⟨⟨[.v (.int n), .v (.int m), .own ((acc ++ [p :: r]).map rowD), .v (.int p), .v (rowD r)], []⟩, .inl ?_, by simp only [List.length_append, List.length_cons, List.length_nil]; omega, _, rfl⟩
        simp only [rwB, rowD, runV, runI, entV, entI, endV, endI, seqs, ifs, retv, reto, setv, seto, asg, drop1, retn, getv, geto, cst, bor, ofO, ofV, asL, seqD, bin2, bin2o, tst, chn, andv, orv, notv, ifv, andt, ort, nott, anil, acons, astar, astarB, mkT, mkL, call1, callo, callF, callFo, callKF, perm, rtD, S.setv, S.setO, szOk, subD_e, ltD_e, leD_e, gtD_e, geD_e, modD_e, fdivD_e, powD_e, addD_i, addD_l, addD_t, mulT_i, mulT_l, mulT_t, mulOk, negF, eqD, neD, isN, notN, ixD_t, ixD_l, ixD_f, lenD_t, lenD_l, lenD_f, lenL, tupD_t, tupD_l, tupD_f, tupL, listD_t, listD_l, listD_f, listL, intD_i, intD_b, absD_e, max2D, min2D, sumL, sumD_t, sumD_l, sortedV_t, sortedV_l, sortedV_f, sortedG_ints, isi_int, isi_bl, isi_tup, isi_lst, isi_str, isi_non, kb_ii, kb_ib, kb_is, kb_it, kb_il, kb_bi, kb_bb, kb_bs, kb_bt, kb_bl, kb_ti, kb_tb, kb_ts, kb_tt, kb_tl, kb_li, kb_lb, kb_ls, kb_lt, kb_ll, kb_si, kb_sb, kb_ss, kb_st, kb_sl, kb_ni, kb_nb, kb_ns, kb_nt, kb_nl, nxt, never, brk, ctn, itS, parA, mnil, mcv, mco, setAll, tgN, tgT, tgsC, tgs0, yes, lcStep, wipeS, wipeL, backS, backL, keepS, intsD_map, boolsD_map, sortRo, revF, revD, callN, callI, ownO, putO, ixO, setIx, appE, Option.bind_some, Option.map_some, Option.bind_none, Option.map_none, List.length_cons, List.length_nil, List.length_map, List.map_cons, List.map_nil, List.cons_append, List.nil_append, List.append_nil, List.replicate_succ, List.replicate_zero, List.reduceReplicate, List.getElem?_cons_zero, List.getElem?_cons_succ, List.getElem?_nil, List.set_cons_zero, List.set_cons_succ, Nat.reduceAdd, Nat.reduceSub, Nat.reduceMul, Nat.reduceEqDiff, Nat.reduceLeDiff, Nat.reduceLT, Int.add_zero, Int.zero_add, List.map_reverse, Nat.reduceBEq, Int.reduceAdd, Int.reduceSub, Int.reduceLT, Int.reduceLE, Int.reduceEq, Int.reduceNeg, Int.reduceToNat, Int.reduceMul, Nat.zero_add, Nat.add_zero, if_true, if_false, reduceIte, decide_true, decide_false, decide_eq_true_eq, Bool.not_true, Bool.not_false, Bool.and_true, Bool.true_and, Bool.and_self, Bool.and_false, Bool.false_and, Bool.or_true, Bool.true_or, Bool.or_false, Bool.false_or, Bool.false_eq_true, Bool.true_eq_false, and_self, and_true, true_and, true_or, or_true, Bool.or_self, Bool.not_not, Function.comp_apply, ne_eq, not_true_eq_false, not_false_eq_true, allL_yes, List.filterMap_cons, List.filterMap_nil, putO, z1, z2, List.map_append])
      ⟨hz, _, rfl⟩
  subst e2
  refine ⟨j', ?_⟩
  rw [e1]
  have : ∀ (rs acc : List (List Int)), rs.foldl (fun acc r => acc ++ [p :: r]) acc = acc ++ rs.map fun r => p :: r := by
    intro rs
    induction rs with
    | nil => intro acc; simp
    | cons r rs ih => intro acc; rw [List.foldl_cons, ih]; simp
  rw [this]
theorem e_rows_within : ∀ (f : Nat) (n m : Int), 0 ≤ n → n < f → n ≤ 24 → 0 ≤ m → F_rows_within f [.int n, .int m] = some (.o ((rowsW f n m).map rowD))
  | 0, n, m, h0, hf, _, _ => by omega
  | f + 1, n, m, h0, hf, h24, hm0 => by
    by_cases hn : n = 0
    · subst hn
      have e := eqB_int 0 0
      rw [decide_eq_true rfl] at e
      simp only [F_rows_within, g_rows_within, runV, runI, entV, entI, endV, endI, seqs, ifs, retv, reto, setv, seto, asg, drop1, retn, getv, geto, cst, bor, ofO, ofV, asL, seqD, bin2, bin2o, tst, chn, andv, orv, notv, ifv, andt, ort, nott, anil, acons, astar, astarB, mkT, mkL, call1, callo, callF, callFo, callKF, perm, rtD, S.setv, S.setO, szOk, subD_e, ltD_e, leD_e, gtD_e, geD_e, modD_e, fdivD_e, powD_e, addD_i, addD_l, addD_t, mulT_i, mulT_l, mulT_t, mulOk, negF, eqD, neD, isN, notN, ixD_t, ixD_l, ixD_f, lenD_t, lenD_l, lenD_f, lenL, tupD_t, tupD_l, tupD_f, tupL, listD_t, listD_l, listD_f, listL, intD_i, intD_b, absD_e, max2D, min2D, sumL, sumD_t, sumD_l, sortedV_t, sortedV_l, sortedV_f, sortedG_ints, isi_int, isi_bl, isi_tup, isi_lst, isi_str, isi_non, kb_ii, kb_ib, kb_is, kb_it, kb_il, kb_bi, kb_bb, kb_bs, kb_bt, kb_bl, kb_ti, kb_tb, kb_ts, kb_tt, kb_tl, kb_li, kb_lb, kb_ls, kb_lt, kb_ll, kb_si, kb_sb, kb_ss, kb_st, kb_sl, kb_ni, kb_nb, kb_ns, kb_nt, kb_nl, nxt, never, brk, ctn, itS, parA, mnil, mcv, mco, setAll, tgN, tgT, tgsC, tgs0, yes, lcStep, wipeS, wipeL, backS, backL, keepS, intsD_map, boolsD_map, sortRo, revF, revD, callN, callI, ownO, putO, ixO, setIx, appE, Option.bind_some, Option.map_some, Option.bind_none, Option.map_none, List.length_cons, List.length_nil, List.length_map, List.map_cons, List.map_nil, List.cons_append, List.nil_append, List.append_nil, List.replicate_succ, List.replicate_zero, List.reduceReplicate, List.getElem?_cons_zero, List.getElem?_cons_succ, List.getElem?_nil, List.set_cons_zero, List.set_cons_succ, Nat.reduceAdd, Nat.reduceSub, Nat.reduceMul, Nat.reduceEqDiff, Nat.reduceLeDiff, Nat.reduceLT, Int.add_zero, Int.zero_add, List.map_reverse, Nat.reduceBEq, Int.reduceAdd, Int.reduceSub, Int.reduceLT, Int.reduceLE, Int.reduceEq, Int.reduceNeg, Int.reduceToNat, Int.reduceMul, Nat.zero_add, Nat.add_zero, if_true, if_false, reduceIte, decide_true, decide_false, decide_eq_true_eq, Bool.not_true, Bool.not_false, Bool.and_true, Bool.true_and, Bool.and_self, Bool.and_false, Bool.false_and, Bool.or_true, Bool.true_or, Bool.or_false, Bool.false_or, Bool.false_eq_true, Bool.true_eq_false, and_self, and_true, true_and, true_or, or_true, Bool.or_self, Bool.not_not, Function.comp_apply, ne_eq, not_true_eq_false, not_false_eq_true, allL_yes, List.filterMap_cons, List.filterMap_nil, e, rowsW, rowD]
    · let g : Int → List (List Int) := fun p => (rowsW f (n - p) p).map fun r => p :: r
      let xs : List Int := (List.range (min n m).toNat).map fun i => (1 : Int) + (i : Nat)
      have hlen : (xs.flatMap g).length ≤ 16777216 := by
        have := rowsW_len (f + 1) n m h0
        unfold rowsW at this
        rw [if_neg hn] at this
        exact Nat.le_trans this (Nat.le_trans (Nat.pow_le_pow_right (by decide) (show n.toNat ≤ 24 by omega)) (by decide))
      obtain ⟨s', e1, -, j3, j4, e2⟩ := forF_rest (t := tgN 3) (b := (fors (itS (callF (F_rows_within f) (acons (bin2 (getv 0) (getv 3) subD) (acons (getv 3) anil)))) (tgN 4) rwB)) D.int
        (fun rest (acc : List (List Int)) s => (acc ++ rest.flatMap g).length ≤ 16777216 ∧ ∃ j3 j4, s = (⟨[.v (.int n), .v (.int m), .own (acc.map rowD), j3, j4], []⟩ : S))
        (fun acc p => acc ++ g p) xs [] ⟨[.v (.int n), .v (.int m), .own [], .no, .no], []⟩ (fun p rest acc s hx hs => by
          obtain ⟨h1, j3, j4, rfl⟩ := hs
          have ⟨p1, p2⟩ := ups_mem.mp hx
          have ih := e_rows_within f (n - p) p (by omega) (by omega) (by omega) (by omega)
          rw [List.flatMap_cons, List.length_append, List.length_append] at h1
          have hg : (g p).length = (rowsW f (n - p) p).length := List.length_map ..
          obtain ⟨j', e⟩ := rw_inner n m p (rowsW f (n - p) p) acc j4 (fun r hr => by
            obtain ⟨a1, a2, _⟩ := rowsW_ok f (n - p) p (by omega) (by omega) r hr
            have := sum_pos a1.2
            omega) (by omega)
          refine ⟨⟨[.v (.int n), .v (.int m), .own ((acc ++ g p).map rowD), .v (.int p), j'], []⟩, .inl ?_, by rw [List.length_append, List.length_append]; omega, _, _, rfl⟩
          rw [show tgN 3 (.int p) ⟨[.v (.int n), .v (.int m), .own (acc.map rowD), j3, j4], []⟩ = some ⟨[.v (.int n), .v (.int m), .own (acc.map rowD), .v (.int p), j4], []⟩ from rfl, Option.bind_some]
          exact fors_e (by simp only [runV, runI, entV, entI, endV, endI, seqs, ifs, retv, reto, setv, seto, asg, drop1, retn, getv, geto, cst, bor, ofO, ofV, asL, seqD, bin2, bin2o, tst, chn, andv, orv, notv, ifv, andt, ort, nott, anil, acons, astar, astarB, mkT, mkL, call1, callo, callF, callFo, callKF, perm, rtD, S.setv, S.setO, szOk, subD_e, ltD_e, leD_e, gtD_e, geD_e, modD_e, fdivD_e, powD_e, addD_i, addD_l, addD_t, mulT_i, mulT_l, mulT_t, mulOk, negF, eqD, neD, isN, notN, ixD_t, ixD_l, ixD_f, lenD_t, lenD_l, lenD_f, lenL, tupD_t, tupD_l, tupD_f, tupL, listD_t, listD_l, listD_f, listL, intD_i, intD_b, absD_e, max2D, min2D, sumL, sumD_t, sumD_l, sortedV_t, sortedV_l, sortedV_f, sortedG_ints, isi_int, isi_bl, isi_tup, isi_lst, isi_str, isi_non, kb_ii, kb_ib, kb_is, kb_it, kb_il, kb_bi, kb_bb, kb_bs, kb_bt, kb_bl, kb_ti, kb_tb, kb_ts, kb_tt, kb_tl, kb_li, kb_lb, kb_ls, kb_lt, kb_ll, kb_si, kb_sb, kb_ss, kb_st, kb_sl, kb_ni, kb_nb, kb_ns, kb_nt, kb_nl, nxt, never, brk, ctn, itS, parA, mnil, mcv, mco, setAll, tgN, tgT, tgsC, tgs0, yes, lcStep, wipeS, wipeL, backS, backL, keepS, intsD_map, boolsD_map, sortRo, revF, revD, callN, callI, ownO, putO, ixO, setIx, appE, Option.bind_some, Option.map_some, Option.bind_none, Option.map_none, List.length_cons, List.length_nil, List.length_map, List.map_cons, List.map_nil, List.cons_append, List.nil_append, List.append_nil, List.replicate_succ, List.replicate_zero, List.reduceReplicate, List.getElem?_cons_zero, List.getElem?_cons_succ, List.getElem?_nil, List.set_cons_zero, List.set_cons_succ, Nat.reduceAdd, Nat.reduceSub, Nat.reduceMul, Nat.reduceEqDiff, Nat.reduceLeDiff, Nat.reduceLT, Int.add_zero, Int.zero_add, List.map_reverse, Nat.reduceBEq, Int.reduceAdd, Int.reduceSub, Int.reduceLT, Int.reduceLE, Int.reduceEq, Int.reduceNeg, Int.reduceToNat, Int.reduceMul, Nat.zero_add, Nat.add_zero, if_true, if_false, reduceIte, decide_true, decide_false, decide_eq_true_eq, Bool.not_true, Bool.not_false, Bool.and_true, Bool.true_and, Bool.and_self, Bool.and_false, Bool.false_and, Bool.or_true, Bool.true_or, Bool.or_false, Bool.false_or, Bool.false_eq_true, Bool.true_eq_false, and_self, and_true, true_and, true_or, or_true, Bool.or_self, Bool.not_not, Function.comp_apply, ne_eq, not_true_eq_false, not_false_eq_true, allL_yes, List.filterMap_cons, List.filterMap_nil, ih]) e)
        ⟨by rw [List.nil_append]; exact hlen, _, _, rfl⟩
      subst e2
      rw [foldl_app, List.nil_append] at e1
      have e0 : xs.map D.int = rng 1 (min n m).toNat := (rng_ints _ _).symm
      rw [e0] at e1
      have hmin : (if m < n then m else n) = min n m := by omega
      have e3 : (min n m + 1 - 1).toNat = (min n m).toNat := by omega
      have e5 := itR2_e (f := acons (cst (.int 1)) (acons (bin2 (call1 (acons (getv 0) (acons (getv 1) anil)) min2D) (cst (.int 1)) addD) anil)) (s := ⟨[.v (.int n), .v (.int m), .own [], .no, .no], []⟩) (s' := ⟨[.v (.int n), .v (.int m), .own [], .no, .no], []⟩) (i := 1) (j := min n m + 1) (by simp only [runV, runI, entV, entI, endV, endI, seqs, ifs, retv, reto, setv, seto, asg, drop1, retn, getv, geto, cst, bor, ofO, ofV, asL, seqD, bin2, bin2o, tst, chn, andv, orv, notv, ifv, andt, ort, nott, anil, acons, astar, astarB, mkT, mkL, call1, callo, callF, callFo, callKF, perm, rtD, S.setv, S.setO, szOk, subD_e, ltD_e, leD_e, gtD_e, geD_e, modD_e, fdivD_e, powD_e, addD_i, addD_l, addD_t, mulT_i, mulT_l, mulT_t, mulOk, negF, eqD, neD, isN, notN, ixD_t, ixD_l, ixD_f, lenD_t, lenD_l, lenD_f, lenL, tupD_t, tupD_l, tupD_f, tupL, listD_t, listD_l, listD_f, listL, intD_i, intD_b, absD_e, max2D, min2D, sumL, sumD_t, sumD_l, sortedV_t, sortedV_l, sortedV_f, sortedG_ints, isi_int, isi_bl, isi_tup, isi_lst, isi_str, isi_non, kb_ii, kb_ib, kb_is, kb_it, kb_il, kb_bi, kb_bb, kb_bs, kb_bt, kb_bl, kb_ti, kb_tb, kb_ts, kb_tt, kb_tl, kb_li, kb_lb, kb_ls, kb_lt, kb_ll, kb_si, kb_sb, kb_ss, kb_st, kb_sl, kb_ni, kb_nb, kb_ns, kb_nt, kb_nl, nxt, never, brk, ctn, itS, parA, mnil, mcv, mco, setAll, tgN, tgT, tgsC, tgs0, yes, lcStep, wipeS, wipeL, backS, backL, keepS, intsD_map, boolsD_map, sortRo, revF, revD, callN, callI, ownO, putO, ixO, setIx, appE, Option.bind_some, Option.map_some, Option.bind_none, Option.map_none, List.length_cons, List.length_nil, List.length_map, List.map_cons, List.map_nil, List.cons_append, List.nil_append, List.append_nil, List.replicate_succ, List.replicate_zero, List.reduceReplicate, List.getElem?_cons_zero, List.getElem?_cons_succ, List.getElem?_nil, List.set_cons_zero, List.set_cons_succ, Nat.reduceAdd, Nat.reduceSub, Nat.reduceMul, Nat.reduceEqDiff, Nat.reduceLeDiff, Nat.reduceLT, Int.add_zero, Int.zero_add, List.map_reverse, Nat.reduceBEq, Int.reduceAdd, Int.reduceSub, Int.reduceLT, Int.reduceLE, Int.reduceEq, Int.reduceNeg, Int.reduceToNat, Int.reduceMul, Nat.zero_add, Nat.add_zero, if_true, if_false, reduceIte, decide_true, decide_false, decide_eq_true_eq, Bool.not_true, Bool.not_false, Bool.and_true, Bool.true_and, Bool.and_self, Bool.and_false, Bool.false_and, Bool.or_true, Bool.true_or, Bool.or_false, Bool.false_or, Bool.false_eq_true, Bool.true_eq_false, and_self, and_true, true_and, true_or, or_true, Bool.or_self, Bool.not_not, Function.comp_apply, ne_eq, not_true_eq_false, not_false_eq_true, allL_yes, List.filterMap_cons, List.filterMap_nil, hmin]) (r62_s _ (by omega) (by omega)) (r62_s _ (by omega) (by omega))
      rw [e3] at e5
      have e6 := fors_e e5 e1
      have hnn : eqB (.int n) (.int 0) = some false := by rw [eqB_int, decide_eq_false hn]
      refine runV_e ⟨[.v (.int n), .v (.int m), .no, .no, .no], []⟩ rfl rfl (o := some (.ro ((xs.flatMap g).map rowD) ⟨[.v (.int n), .v (.int m), .own ((xs.flatMap g).map rowD), j3, j4], []⟩)) ?_ (by unfold rowsW; rw [if_neg hn]; rfl)
      unfold rwB at e6
      unfold g_rows_within
      rw [seqs_nx (s' := ⟨[.v (.int n), .v (.int m), .no, .no, .no], []⟩) (by simp only [runV, runI, entV, entI, endV, endI, seqs, ifs, retv, reto, setv, seto, asg, drop1, retn, getv, geto, cst, bor, ofO, ofV, asL, seqD, bin2, bin2o, tst, chn, andv, orv, notv, ifv, andt, ort, nott, anil, acons, astar, astarB, mkT, mkL, call1, callo, callF, callFo, callKF, perm, rtD, S.setv, S.setO, szOk, subD_e, ltD_e, leD_e, gtD_e, geD_e, modD_e, fdivD_e, powD_e, addD_i, addD_l, addD_t, mulT_i, mulT_l, mulT_t, mulOk, negF, eqD, neD, isN, notN, ixD_t, ixD_l, ixD_f, lenD_t, lenD_l, lenD_f, lenL, tupD_t, tupD_l, tupD_f, tupL, listD_t, listD_l, listD_f, listL, intD_i, intD_b, absD_e, max2D, min2D, sumL, sumD_t, sumD_l, sortedV_t, sortedV_l, sortedV_f, sortedG_ints, isi_int, isi_bl, isi_tup, isi_lst, isi_str, isi_non, kb_ii, kb_ib, kb_is, kb_it, kb_il, kb_bi, kb_bb, kb_bs, kb_bt, kb_bl, kb_ti, kb_tb, kb_ts, kb_tt, kb_tl, kb_li, kb_lb, kb_ls, kb_lt, kb_ll, kb_si, kb_sb, kb_ss, kb_st, kb_sl, kb_ni, kb_nb, kb_ns, kb_nt, kb_nl, nxt, never, brk, ctn, itS, parA, mnil, mcv, mco, setAll, tgN, tgT, tgsC, tgs0, yes, lcStep, wipeS, wipeL, backS, backL, keepS, intsD_map, boolsD_map, sortRo, revF, revD, callN, callI, ownO, putO, ixO, setIx, appE, Option.bind_some, Option.map_some, Option.bind_none, Option.map_none, List.length_cons, List.length_nil, List.length_map, List.map_cons, List.map_nil, List.cons_append, List.nil_append, List.append_nil, List.replicate_succ, List.replicate_zero, List.reduceReplicate, List.getElem?_cons_zero, List.getElem?_cons_succ, List.getElem?_nil, List.set_cons_zero, List.set_cons_succ, Nat.reduceAdd, Nat.reduceSub, Nat.reduceMul, Nat.reduceEqDiff, Nat.reduceLeDiff, Nat.reduceLT, Int.add_zero, Int.zero_add, List.map_reverse, Nat.reduceBEq, Int.reduceAdd, Int.reduceSub, Int.reduceLT, Int.reduceLE, Int.reduceEq, Int.reduceNeg, Int.reduceToNat, Int.reduceMul, Nat.zero_add, Nat.add_zero, if_true, if_false, reduceIte, decide_true, decide_false, decide_eq_true_eq, Bool.not_true, Bool.not_false, Bool.and_true, Bool.true_and, Bool.and_self, Bool.and_false, Bool.false_and, Bool.or_true, Bool.true_or, Bool.or_false, Bool.false_or, Bool.false_eq_true, Bool.true_eq_false, and_self, and_true, true_and, true_or, or_true, Bool.or_self, Bool.not_not, Function.comp_apply, ne_eq, not_true_eq_false, not_false_eq_true, allL_yes, List.filterMap_cons, List.filterMap_nil, hnn]), seqs_nx (s' := ⟨[.v (.int n), .v (.int m), .own [], .no, .no], []⟩) (by simp only [runV, runI, entV, entI, endV, endI, seqs, ifs, retv, reto, setv, seto, asg, drop1, retn, getv, geto, cst, bor, ofO, ofV, asL, seqD, bin2, bin2o, tst, chn, andv, orv, notv, ifv, andt, ort, nott, anil, acons, astar, astarB, mkT, mkL, call1, callo, callF, callFo, callKF, perm, rtD, S.setv, S.setO, szOk, subD_e, ltD_e, leD_e, gtD_e, geD_e, modD_e, fdivD_e, powD_e, addD_i, addD_l, addD_t, mulT_i, mulT_l, mulT_t, mulOk, negF, eqD, neD, isN, notN, ixD_t, ixD_l, ixD_f, lenD_t, lenD_l, lenD_f, lenL, tupD_t, tupD_l, tupD_f, tupL, listD_t, listD_l, listD_f, listL, intD_i, intD_b, absD_e, max2D, min2D, sumL, sumD_t, sumD_l, sortedV_t, sortedV_l, sortedV_f, sortedG_ints, isi_int, isi_bl, isi_tup, isi_lst, isi_str, isi_non, kb_ii, kb_ib, kb_is, kb_it, kb_il, kb_bi, kb_bb, kb_bs, kb_bt, kb_bl, kb_ti, kb_tb, kb_ts, kb_tt, kb_tl, kb_li, kb_lb, kb_ls, kb_lt, kb_ll, kb_si, kb_sb, kb_ss, kb_st, kb_sl, kb_ni, kb_nb, kb_ns, kb_nt, kb_nl, nxt, never, brk, ctn, itS, parA, mnil, mcv, mco, setAll, tgN, tgT, tgsC, tgs0, yes, lcStep, wipeS, wipeL, backS, backL, keepS, intsD_map, boolsD_map, sortRo, revF, revD, callN, callI, ownO, putO, ixO, setIx, appE, Option.bind_some, Option.map_some, Option.bind_none, Option.map_none, List.length_cons, List.length_nil, List.length_map, List.map_cons, List.map_nil, List.cons_append, List.nil_append, List.append_nil, List.replicate_succ, List.replicate_zero, List.reduceReplicate, List.getElem?_cons_zero, List.getElem?_cons_succ, List.getElem?_nil, List.set_cons_zero, List.set_cons_succ, Nat.reduceAdd, Nat.reduceSub, Nat.reduceMul, Nat.reduceEqDiff, Nat.reduceLeDiff, Nat.reduceLT, Int.add_zero, Int.zero_add, List.map_reverse, Nat.reduceBEq, Int.reduceAdd, Int.reduceSub, Int.reduceLT, Int.reduceLE, Int.reduceEq, Int.reduceNeg, Int.reduceToNat, Int.reduceMul, Nat.zero_add, Nat.add_zero, if_true, if_false, reduceIte, decide_true, decide_false, decide_eq_true_eq, Bool.not_true, Bool.not_false, Bool.and_true, Bool.true_and, Bool.and_self, Bool.and_false, Bool.false_and, Bool.or_true, Bool.true_or, Bool.or_false, Bool.false_or, Bool.false_eq_true, Bool.true_eq_false, and_self, and_true, true_and, true_or, or_true, Bool.or_self, Bool.not_not, Function.comp_apply, ne_eq, not_true_eq_false, not_false_eq_true, allL_yes, List.filterMap_cons, List.filterMap_nil]), seqs_nx e6]
      simp only [runV, runI, entV, entI, endV, endI, seqs, ifs, retv, reto, setv, seto, asg, drop1, retn, getv, geto, cst, bor, ofO, ofV, asL, seqD, bin2, bin2o, tst, chn, andv, orv, notv, ifv, andt, ort, nott, anil, acons, astar, astarB, mkT, mkL, call1, callo, callF, callFo, callKF, perm, rtD, S.setv, S.setO, szOk, subD_e, ltD_e, leD_e, gtD_e, geD_e, modD_e, fdivD_e, powD_e, addD_i, addD_l, addD_t, mulT_i, mulT_l, mulT_t, mulOk, negF, eqD, neD, isN, notN, ixD_t, ixD_l, ixD_f, lenD_t, lenD_l, lenD_f, lenL, tupD_t, tupD_l, tupD_f, tupL, listD_t, listD_l, listD_f, listL, intD_i, intD_b, absD_e, max2D, min2D, sumL, sumD_t, sumD_l, sortedV_t, sortedV_l, sortedV_f, sortedG_ints, isi_int, isi_bl, isi_tup, isi_lst, isi_str, isi_non, kb_ii, kb_ib, kb_is, kb_it, kb_il, kb_bi, kb_bb, kb_bs, kb_bt, kb_bl, kb_ti, kb_tb, kb_ts, kb_tt, kb_tl, kb_li, kb_lb, kb_ls, kb_lt, kb_ll, kb_si, kb_sb, kb_ss, kb_st, kb_sl, kb_ni, kb_nb, kb_ns, kb_nt, kb_nl, nxt, never, brk, ctn, itS, parA, mnil, mcv, mco, setAll, tgN, tgT, tgsC, tgs0, yes, lcStep, wipeS, wipeL, backS, backL, keepS, intsD_map, boolsD_map, sortRo, revF, revD, callN, callI, ownO, putO, ixO, setIx, appE, Option.bind_some, Option.map_some, Option.bind_none, Option.map_none, List.length_cons, List.length_nil, List.length_map, List.map_cons, List.map_nil, List.cons_append, List.nil_append, List.append_nil, List.replicate_succ, List.replicate_zero, List.reduceReplicate, List.getElem?_cons_zero, List.getElem?_cons_succ, List.getElem?_nil, List.set_cons_zero, List.set_cons_succ, Nat.reduceAdd, Nat.reduceSub, Nat.reduceMul, Nat.reduceEqDiff, Nat.reduceLeDiff, Nat.reduceLT, Int.add_zero, Int.zero_add, List.map_reverse, Nat.reduceBEq, Int.reduceAdd, Int.reduceSub, Int.reduceLT, Int.reduceLE, Int.reduceEq, Int.reduceNeg, Int.reduceToNat, Int.reduceMul, Nat.zero_add, Nat.add_zero, if_true, if_false, reduceIte, decide_true, decide_false, decide_eq_true_eq, Bool.not_true, Bool.not_false, Bool.and_true, Bool.true_and, Bool.and_self, Bool.and_false, Bool.false_and, Bool.or_true, Bool.true_or, Bool.or_false, Bool.false_or, Bool.false_eq_true, Bool.true_eq_false, and_self, and_true, true_and, true_or, or_true, Bool.or_self, Bool.not_not, Function.comp_apply, ne_eq, not_true_eq_false, not_false_eq_true, allL_yes, List.filterMap_cons, List.filterMap_nil]
end K65
namespace K65
open PySem L2 DL DLT PyProof.Rows
theorem ixN_in {n : Nat} {i : Int} (h0 : 0 ≤ i) (h1 : i < n) : ixN n i = some i.toNat := by unfold ixN; rw [if_pos h0, if_pos h1]
def rowsN (n : Int) : List (List Int) := rowsW 40 n n
theorem rowsN_ok {n : Int} (h0 : 0 ≤ n) (h : n ≤ 24) {r : List Int} (hr : r ∈ rowsN n) : Ok r := by
  obtain ⟨a, b, _⟩ := rowsW_ok 40 n n h0 (by omega) r hr
  exact ⟨a, by omega⟩
theorem rowsN_len {n : Int} (h0 : 0 ≤ n) (h : n ≤ 24) : (rowsN n).length ≤ 16777216 :=
  Nat.le_trans (rowsW_len 40 n n h0) (Nat.le_trans (Nat.pow_le_pow_right (by decide) (show n.toNat ≤ 24 by omega)) (by decide))
theorem e_all_rows (n : Int) (h0 : 0 ≤ n) (h : n ≤ 24) : F_all_rows [.int n] = some (.v (.tup ((rowsN n).map rowD))) := by
  have e := e_rows_within 40 n n h0 (by omega) h h0
  simp only [F_all_rows, g_all_rows, runV, runI, entV, entI, endV, endI, seqs, ifs, retv, reto, setv, seto, asg, drop1, retn, getv, geto, cst, bor, ofO, ofV, asL, seqD, bin2, bin2o, tst, chn, andv, orv, notv, ifv, andt, ort, nott, anil, acons, astar, astarB, mkT, mkL, call1, callo, callF, callFo, callKF, perm, rtD, S.setv, S.setO, szOk, subD_e, ltD_e, leD_e, gtD_e, geD_e, modD_e, fdivD_e, powD_e, addD_i, addD_l, addD_t, mulT_i, mulT_l, mulT_t, mulOk, negF, eqD, neD, isN, notN, ixD_t, ixD_l, ixD_f, lenD_t, lenD_l, lenD_f, lenL, tupD_t, tupD_l, tupD_f, tupL, listD_t, listD_l, listD_f, listL, intD_i, intD_b, absD_e, max2D, min2D, sumL, sumD_t, sumD_l, sortedV_t, sortedV_l, sortedV_f, sortedG_ints, isi_int, isi_bl, isi_tup, isi_lst, isi_str, isi_non, kb_ii, kb_ib, kb_is, kb_it, kb_il, kb_bi, kb_bb, kb_bs, kb_bt, kb_bl, kb_ti, kb_tb, kb_ts, kb_tt, kb_tl, kb_li, kb_lb, kb_ls, kb_lt, kb_ll, kb_si, kb_sb, kb_ss, kb_st, kb_sl, kb_ni, kb_nb, kb_ns, kb_nt, kb_nl, nxt, never, brk, ctn, itS, parA, mnil, mcv, mco, setAll, tgN, tgT, tgsC, tgs0, yes, lcStep, wipeS, wipeL, backS, backL, keepS, intsD_map, boolsD_map, sortRo, revF, revD, callN, callI, ownO, putO, ixO, setIx, appE, Option.bind_some, Option.map_some, Option.bind_none, Option.map_none, List.length_cons, List.length_nil, List.length_map, List.map_cons, List.map_nil, List.cons_append, List.nil_append, List.append_nil, List.replicate_succ, List.replicate_zero, List.reduceReplicate, List.getElem?_cons_zero, List.getElem?_cons_succ, List.getElem?_nil, List.set_cons_zero, List.set_cons_succ, Nat.reduceAdd, Nat.reduceSub, Nat.reduceMul, Nat.reduceEqDiff, Nat.reduceLeDiff, Nat.reduceLT, Int.add_zero, Int.zero_add, List.map_reverse, Nat.reduceBEq, Int.reduceAdd, Int.reduceSub, Int.reduceLT, Int.reduceLE, Int.reduceEq, Int.reduceNeg, Int.reduceToNat, Int.reduceMul, Nat.zero_add, Nat.add_zero, if_true, if_false, reduceIte, decide_true, decide_false, decide_eq_true_eq, Bool.not_true, Bool.not_false, Bool.and_true, Bool.true_and, Bool.and_self, Bool.and_false, Bool.false_and, Bool.or_true, Bool.true_or, Bool.or_false, Bool.false_or, Bool.false_eq_true, Bool.true_eq_false, and_self, and_true, true_and, true_or, or_true, Bool.or_self, Bool.not_not, Function.comp_apply, ne_eq, not_true_eq_false, not_false_eq_true, allL_yes, List.filterMap_cons, List.filterMap_nil, e_check_within n 0 24 h0 h, e, rowsN]
/-! shared -/
def shareF (by_ : Int) (acc : List Int) (m : Int) : List Int := acc.set (m % by_).toNat (acc.getD (m % by_).toNat 0 + 1)
def sharedP (marks : List Int) (by_ : Int) : List Int := marks.foldl (shareF by_) (List.replicate by_.toNat 0)
theorem share_step (b : Int) (h0 : 0 < b) (marks acc : List Int) (m : Int) (hl : acc.length = b.toNat) (j : Sl) :
    (tgN 3 (.int m) ⟨[.v (.lst (marks.map .int)), .v (.int b), .own (acc.map .int), j], []⟩).bind (setIx 2 (bin2 (ixO 2 (bin2 (call1 (acons (getv 3) anil) DL.intD) (getv 1) modD)) (cst (.int 1)) addD) (bin2 (call1 (acons (getv 3) anil) DL.intD) (getv 1) modD))
      = some (.nx ⟨[.v (.lst (marks.map .int)), .v (.int b), .own ((shareF b acc m).map .int), .v (.int m)], []⟩) := by
  have z1 := Int.emod_nonneg m (show b ≠ 0 by omega)
  have z2 := Int.emod_lt_of_pos m h0
  have e1 := atI_ints acc (m % b) z1 (by omega)
  have e2 : ixN acc.length (m % b) = some (m % b).toNat := ixN_in z1 (by omega)
  simp only [runV, runI, entV, entI, endV, endI, seqs, ifs, retv, reto, setv, seto, asg, drop1, retn, getv, geto, cst, bor, ofO, ofV, asL, seqD, bin2, bin2o, tst, chn, andv, orv, notv, ifv, andt, ort, nott, anil, acons, astar, astarB, mkT, mkL, call1, callo, callF, callFo, callKF, perm, rtD, S.setv, S.setO, szOk, subD_e, ltD_e, leD_e, gtD_e, geD_e, modD_e, fdivD_e, powD_e, addD_i, addD_l, addD_t, mulT_i, mulT_l, mulT_t, mulOk, negF, eqD, neD, isN, notN, ixD_t, ixD_l, ixD_f, lenD_t, lenD_l, lenD_f, lenL, tupD_t, tupD_l, tupD_f, tupL, listD_t, listD_l, listD_f, listL, intD_i, intD_b, absD_e, max2D, min2D, sumL, sumD_t, sumD_l, sortedV_t, sortedV_l, sortedV_f, sortedG_ints, isi_int, isi_bl, isi_tup, isi_lst, isi_str, isi_non, kb_ii, kb_ib, kb_is, kb_it, kb_il, kb_bi, kb_bb, kb_bs, kb_bt, kb_bl, kb_ti, kb_tb, kb_ts, kb_tt, kb_tl, kb_li, kb_lb, kb_ls, kb_lt, kb_ll, kb_si, kb_sb, kb_ss, kb_st, kb_sl, kb_ni, kb_nb, kb_ns, kb_nt, kb_nl, nxt, never, brk, ctn, itS, parA, mnil, mcv, mco, setAll, tgN, tgT, tgsC, tgs0, yes, lcStep, wipeS, wipeL, backS, backL, keepS, intsD_map, boolsD_map, sortRo, revF, revD, callN, callI, ownO, putO, ixO, setIx, appE, Option.bind_some, Option.map_some, Option.bind_none, Option.map_none, List.length_cons, List.length_nil, List.length_map, List.map_cons, List.map_nil, List.cons_append, List.nil_append, List.append_nil, List.replicate_succ, List.replicate_zero, List.reduceReplicate, List.getElem?_cons_zero, List.getElem?_cons_succ, List.getElem?_nil, List.set_cons_zero, List.set_cons_succ, Nat.reduceAdd, Nat.reduceSub, Nat.reduceMul, Nat.reduceEqDiff, Nat.reduceLeDiff, Nat.reduceLT, Int.add_zero, Int.zero_add, List.map_reverse, Nat.reduceBEq, Int.reduceAdd, Int.reduceSub, Int.reduceLT, Int.reduceLE, Int.reduceEq, Int.reduceNeg, Int.reduceToNat, Int.reduceMul, Nat.zero_add, Nat.add_zero, if_true, if_false, reduceIte, decide_true, decide_false, decide_eq_true_eq, Bool.not_true, Bool.not_false, Bool.and_true, Bool.true_and, Bool.and_self, Bool.and_false, Bool.false_and, Bool.or_true, Bool.true_or, Bool.or_false, Bool.false_or, Bool.false_eq_true, Bool.true_eq_false, and_self, and_true, true_and, true_or, or_true, Bool.or_self, Bool.not_not, Function.comp_apply, ne_eq, not_true_eq_false, not_false_eq_true, allL_yes, List.filterMap_cons, List.filterMap_nil, putO, shareF, h0, e1, e2, List.map_set]
theorem e_shared (marks : List Int) (b : Int) (h0 : 0 < b) (h1 : b ≤ 1000) : F_shared [.lst (marks.map .int), .int b] = some (.v (.tup ((sharedP marks b).map .int))) := by
  obtain ⟨s', e1, -, j, e2⟩ := forF_rest (t := tgN 3) (b := (setIx 2 (bin2 (ixO 2 (bin2 (call1 (acons (getv 3) anil) DL.intD) (getv 1) modD)) (cst (.int 1)) addD) (bin2 (call1 (acons (getv 3) anil) DL.intD) (getv 1) modD))) D.int
    (fun _ (acc : List Int) s => acc.length = b.toNat ∧ ∃ j, s = (⟨[.v (.lst (marks.map .int)), .v (.int b), .own (acc.map .int), j], []⟩ : S))
    (shareF b) marks (List.replicate b.toNat 0) ⟨[.v (.lst (marks.map .int)), .v (.int b), .own ((List.replicate b.toNat (0 : Int)).map .int), .no], []⟩ (fun m rest acc s _ hs => by
      obtain ⟨hl, j, rfl⟩ := hs
      exact ⟨_, .inl (share_step b h0 marks acc m hl j), by simp only [shareF, List.length_set]; exact hl, _, rfl⟩)
    ⟨by simp, _, rfl⟩
  subst e2
  have z1 : b.natAbs < 2 ^ 63 := by omega
  have z2 : 1 * b.toNat ≤ 16777216 := by omega
  refine runV_e ⟨[.v (.lst (marks.map .int)), .v (.int b), .no, .no], []⟩ rfl rfl (o := some (.rt (.tup ((sharedP marks b).map .int)) ⟨[.v (.lst (marks.map .int)), .v (.int b), .own ((sharedP marks b).map .int), j], []⟩)) ?_ rfl
  unfold g_shared
  rw [seqs_nx (s' := ⟨[.v (.lst (marks.map .int)), .v (.int b), .own ((List.replicate b.toNat (0 : Int)).map .int), .no], []⟩) (by simp only [runV, runI, entV, entI, endV, endI, seqs, ifs, retv, reto, setv, seto, asg, drop1, retn, getv, geto, cst, bor, ofO, ofV, asL, seqD, bin2, bin2o, tst, chn, andv, orv, notv, ifv, andt, ort, nott, anil, acons, astar, astarB, mkT, mkL, call1, callo, callF, callFo, callKF, perm, rtD, S.setv, S.setO, szOk, subD_e, ltD_e, leD_e, gtD_e, geD_e, modD_e, fdivD_e, powD_e, addD_i, addD_l, addD_t, mulT_i, mulT_l, mulT_t, mulOk, negF, eqD, neD, isN, notN, ixD_t, ixD_l, ixD_f, lenD_t, lenD_l, lenD_f, lenL, tupD_t, tupD_l, tupD_f, tupL, listD_t, listD_l, listD_f, listL, intD_i, intD_b, absD_e, max2D, min2D, sumL, sumD_t, sumD_l, sortedV_t, sortedV_l, sortedV_f, sortedG_ints, isi_int, isi_bl, isi_tup, isi_lst, isi_str, isi_non, kb_ii, kb_ib, kb_is, kb_it, kb_il, kb_bi, kb_bb, kb_bs, kb_bt, kb_bl, kb_ti, kb_tb, kb_ts, kb_tt, kb_tl, kb_li, kb_lb, kb_ls, kb_lt, kb_ll, kb_si, kb_sb, kb_ss, kb_st, kb_sl, kb_ni, kb_nb, kb_ns, kb_nt, kb_nl, nxt, never, brk, ctn, itS, parA, mnil, mcv, mco, setAll, tgN, tgT, tgsC, tgs0, yes, lcStep, wipeS, wipeL, backS, backL, keepS, intsD_map, boolsD_map, sortRo, revF, revD, callN, callI, ownO, putO, ixO, setIx, appE, Option.bind_some, Option.map_some, Option.bind_none, Option.map_none, List.length_cons, List.length_nil, List.length_map, List.map_cons, List.map_nil, List.cons_append, List.nil_append, List.append_nil, List.replicate_succ, List.replicate_zero, List.reduceReplicate, List.getElem?_cons_zero, List.getElem?_cons_succ, List.getElem?_nil, List.set_cons_zero, List.set_cons_succ, Nat.reduceAdd, Nat.reduceSub, Nat.reduceMul, Nat.reduceEqDiff, Nat.reduceLeDiff, Nat.reduceLT, Int.add_zero, Int.zero_add, List.map_reverse, Nat.reduceBEq, Int.reduceAdd, Int.reduceSub, Int.reduceLT, Int.reduceLE, Int.reduceEq, Int.reduceNeg, Int.reduceToNat, Int.reduceMul, Nat.zero_add, Nat.add_zero, if_true, if_false, reduceIte, decide_true, decide_false, decide_eq_true_eq, Bool.not_true, Bool.not_false, Bool.and_true, Bool.true_and, Bool.and_self, Bool.and_false, Bool.false_and, Bool.or_true, Bool.true_or, Bool.or_false, Bool.false_or, Bool.false_eq_true, Bool.true_eq_false, and_self, and_true, true_and, true_or, or_true, Bool.or_self, Bool.not_not, Function.comp_apply, ne_eq, not_true_eq_false, not_false_eq_true, allL_yes, List.filterMap_cons, List.filterMap_nil, repO, z1, z2, List.flatten_replicate_singleton, List.map_replicate]), seqs_nx (fors_e (by simp only [runV, runI, entV, entI, endV, endI, seqs, ifs, retv, reto, setv, seto, asg, drop1, retn, getv, geto, cst, bor, ofO, ofV, asL, seqD, bin2, bin2o, tst, chn, andv, orv, notv, ifv, andt, ort, nott, anil, acons, astar, astarB, mkT, mkL, call1, callo, callF, callFo, callKF, perm, rtD, S.setv, S.setO, szOk, subD_e, ltD_e, leD_e, gtD_e, geD_e, modD_e, fdivD_e, powD_e, addD_i, addD_l, addD_t, mulT_i, mulT_l, mulT_t, mulOk, negF, eqD, neD, isN, notN, ixD_t, ixD_l, ixD_f, lenD_t, lenD_l, lenD_f, lenL, tupD_t, tupD_l, tupD_f, tupL, listD_t, listD_l, listD_f, listL, intD_i, intD_b, absD_e, max2D, min2D, sumL, sumD_t, sumD_l, sortedV_t, sortedV_l, sortedV_f, sortedG_ints, isi_int, isi_bl, isi_tup, isi_lst, isi_str, isi_non, kb_ii, kb_ib, kb_is, kb_it, kb_il, kb_bi, kb_bb, kb_bs, kb_bt, kb_bl, kb_ti, kb_tb, kb_ts, kb_tt, kb_tl, kb_li, kb_lb, kb_ls, kb_lt, kb_ll, kb_si, kb_sb, kb_ss, kb_st, kb_sl, kb_ni, kb_nb, kb_ns, kb_nt, kb_nl, nxt, never, brk, ctn, itS, parA, mnil, mcv, mco, setAll, tgN, tgT, tgsC, tgs0, yes, lcStep, wipeS, wipeL, backS, backL, keepS, intsD_map, boolsD_map, sortRo, revF, revD, callN, callI, ownO, putO, ixO, setIx, appE, Option.bind_some, Option.map_some, Option.bind_none, Option.map_none, List.length_cons, List.length_nil, List.length_map, List.map_cons, List.map_nil, List.cons_append, List.nil_append, List.append_nil, List.replicate_succ, List.replicate_zero, List.reduceReplicate, List.getElem?_cons_zero, List.getElem?_cons_succ, List.getElem?_nil, List.set_cons_zero, List.set_cons_succ, Nat.reduceAdd, Nat.reduceSub, Nat.reduceMul, Nat.reduceEqDiff, Nat.reduceLeDiff, Nat.reduceLT, Int.add_zero, Int.zero_add, List.map_reverse, Nat.reduceBEq, Int.reduceAdd, Int.reduceSub, Int.reduceLT, Int.reduceLE, Int.reduceEq, Int.reduceNeg, Int.reduceToNat, Int.reduceMul, Nat.zero_add, Nat.add_zero, if_true, if_false, reduceIte, decide_true, decide_false, decide_eq_true_eq, Bool.not_true, Bool.not_false, Bool.and_true, Bool.true_and, Bool.and_self, Bool.and_false, Bool.false_and, Bool.or_true, Bool.true_or, Bool.or_false, Bool.false_or, Bool.false_eq_true, Bool.true_eq_false, and_self, and_true, true_and, true_or, or_true, Bool.or_self, Bool.not_not, Function.comp_apply, ne_eq, not_true_eq_false, not_false_eq_true, allL_yes, List.filterMap_cons, List.filterMap_nil]) e1)]
  simp only [runV, runI, entV, entI, endV, endI, seqs, ifs, retv, reto, setv, seto, asg, drop1, retn, getv, geto, cst, bor, ofO, ofV, asL, seqD, bin2, bin2o, tst, chn, andv, orv, notv, ifv, andt, ort, nott, anil, acons, astar, astarB, mkT, mkL, call1, callo, callF, callFo, callKF, perm, rtD, S.setv, S.setO, szOk, subD_e, ltD_e, leD_e, gtD_e, geD_e, modD_e, fdivD_e, powD_e, addD_i, addD_l, addD_t, mulT_i, mulT_l, mulT_t, mulOk, negF, eqD, neD, isN, notN, ixD_t, ixD_l, ixD_f, lenD_t, lenD_l, lenD_f, lenL, tupD_t, tupD_l, tupD_f, tupL, listD_t, listD_l, listD_f, listL, intD_i, intD_b, absD_e, max2D, min2D, sumL, sumD_t, sumD_l, sortedV_t, sortedV_l, sortedV_f, sortedG_ints, isi_int, isi_bl, isi_tup, isi_lst, isi_str, isi_non, kb_ii, kb_ib, kb_is, kb_it, kb_il, kb_bi, kb_bb, kb_bs, kb_bt, kb_bl, kb_ti, kb_tb, kb_ts, kb_tt, kb_tl, kb_li, kb_lb, kb_ls, kb_lt, kb_ll, kb_si, kb_sb, kb_ss, kb_st, kb_sl, kb_ni, kb_nb, kb_ns, kb_nt, kb_nl, nxt, never, brk, ctn, itS, parA, mnil, mcv, mco, setAll, tgN, tgT, tgsC, tgs0, yes, lcStep, wipeS, wipeL, backS, backL, keepS, intsD_map, boolsD_map, sortRo, revF, revD, callN, callI, ownO, putO, ixO, setIx, appE, Option.bind_some, Option.map_some, Option.bind_none, Option.map_none, List.length_cons, List.length_nil, List.length_map, List.map_cons, List.map_nil, List.cons_append, List.nil_append, List.append_nil, List.replicate_succ, List.replicate_zero, List.reduceReplicate, List.getElem?_cons_zero, List.getElem?_cons_succ, List.getElem?_nil, List.set_cons_zero, List.set_cons_succ, Nat.reduceAdd, Nat.reduceSub, Nat.reduceMul, Nat.reduceEqDiff, Nat.reduceLeDiff, Nat.reduceLT, Int.add_zero, Int.zero_add, List.map_reverse, Nat.reduceBEq, Int.reduceAdd, Int.reduceSub, Int.reduceLT, Int.reduceLE, Int.reduceEq, Int.reduceNeg, Int.reduceToNat, Int.reduceMul, Nat.zero_add, Nat.add_zero, if_true, if_false, reduceIte, decide_true, decide_false, decide_eq_true_eq, Bool.not_true, Bool.not_false, Bool.and_true, Bool.true_and, Bool.and_self, Bool.and_false, Bool.false_and, Bool.or_true, Bool.true_or, Bool.or_false, Bool.false_or, Bool.false_eq_true, Bool.true_eq_false, and_self, and_true, true_and, true_or, or_true, Bool.or_self, Bool.not_not, Function.comp_apply, ne_eq, not_true_eq_false, not_false_eq_true, allL_yes, List.filterMap_cons, List.filterMap_nil, sharedP]
theorem e_by_rank (n b : Int) (h0 : 0 ≤ n) (h : n ≤ 24) (b0 : 2 ≤ b) (b1 : b ≤ 20) : F_by_rank [.int n, .int b] = some (.v (.tup ((sharedP ((rowsN n).map rankP) b).map .int))) := by
  have e := e_rows_within 40 n n h0 (by omega) h h0
  have e1 : lcS [2] (itS (callF (F_rows_within 40) (acons (getv 0) (acons (getv 0) anil)))) (tgN 2) yes (callF F_rank_of (acons (getv 2) anil)) ⟨[.v (.int n), .v (.int b), .no], []⟩
      = some (((rowsN n).map rankP).map .int, ⟨[.v (.int n), .v (.int b), .no], []⟩) := by
    rw [List.map_map]
    refine lcS_map (s1 := ⟨[.v (.int n), .v (.int b), .no], []⟩) rowD _ (rowsN n) (by simp only [runV, runI, entV, entI, endV, endI, seqs, ifs, retv, reto, setv, seto, asg, drop1, retn, getv, geto, cst, bor, ofO, ofV, asL, seqD, bin2, bin2o, tst, chn, andv, orv, notv, ifv, andt, ort, nott, anil, acons, astar, astarB, mkT, mkL, call1, callo, callF, callFo, callKF, perm, rtD, S.setv, S.setO, szOk, subD_e, ltD_e, leD_e, gtD_e, geD_e, modD_e, fdivD_e, powD_e, addD_i, addD_l, addD_t, mulT_i, mulT_l, mulT_t, mulOk, negF, eqD, neD, isN, notN, ixD_t, ixD_l, ixD_f, lenD_t, lenD_l, lenD_f, lenL, tupD_t, tupD_l, tupD_f, tupL, listD_t, listD_l, listD_f, listL, intD_i, intD_b, absD_e, max2D, min2D, sumL, sumD_t, sumD_l, sortedV_t, sortedV_l, sortedV_f, sortedG_ints, isi_int, isi_bl, isi_tup, isi_lst, isi_str, isi_non, kb_ii, kb_ib, kb_is, kb_it, kb_il, kb_bi, kb_bb, kb_bs, kb_bt, kb_bl, kb_ti, kb_tb, kb_ts, kb_tt, kb_tl, kb_li, kb_lb, kb_ls, kb_lt, kb_ll, kb_si, kb_sb, kb_ss, kb_st, kb_sl, kb_ni, kb_nb, kb_ns, kb_nt, kb_nl, nxt, never, brk, ctn, itS, parA, mnil, mcv, mco, setAll, tgN, tgT, tgsC, tgs0, yes, lcStep, wipeS, wipeL, backS, backL, keepS, intsD_map, boolsD_map, sortRo, revF, revD, callN, callI, ownO, putO, ixO, setIx, appE, Option.bind_some, Option.map_some, Option.bind_none, Option.map_none, List.length_cons, List.length_nil, List.length_map, List.map_cons, List.map_nil, List.cons_append, List.nil_append, List.append_nil, List.replicate_succ, List.replicate_zero, List.reduceReplicate, List.getElem?_cons_zero, List.getElem?_cons_succ, List.getElem?_nil, List.set_cons_zero, List.set_cons_succ, Nat.reduceAdd, Nat.reduceSub, Nat.reduceMul, Nat.reduceEqDiff, Nat.reduceLeDiff, Nat.reduceLT, Int.add_zero, Int.zero_add, List.map_reverse, Nat.reduceBEq, Int.reduceAdd, Int.reduceSub, Int.reduceLT, Int.reduceLE, Int.reduceEq, Int.reduceNeg, Int.reduceToNat, Int.reduceMul, Nat.zero_add, Nat.add_zero, if_true, if_false, reduceIte, decide_true, decide_false, decide_eq_true_eq, Bool.not_true, Bool.not_false, Bool.and_true, Bool.true_and, Bool.and_self, Bool.and_false, Bool.false_and, Bool.or_true, Bool.true_or, Bool.or_false, Bool.false_or, Bool.false_eq_true, Bool.true_eq_false, and_self, and_true, true_and, true_or, or_true, Bool.or_self, Bool.not_not, Function.comp_apply, ne_eq, not_true_eq_false, not_false_eq_true, allL_yes, List.filterMap_cons, List.filterMap_nil, e, rowsN]) (rowsN_len h0 h) fun r hr => ?_
    have := e_rank_of r (rowsN_ok h0 h hr)
    simp only [runV, runI, entV, entI, endV, endI, seqs, ifs, retv, reto, setv, seto, asg, drop1, retn, getv, geto, cst, bor, ofO, ofV, asL, seqD, bin2, bin2o, tst, chn, andv, orv, notv, ifv, andt, ort, nott, anil, acons, astar, astarB, mkT, mkL, call1, callo, callF, callFo, callKF, perm, rtD, S.setv, S.setO, szOk, subD_e, ltD_e, leD_e, gtD_e, geD_e, modD_e, fdivD_e, powD_e, addD_i, addD_l, addD_t, mulT_i, mulT_l, mulT_t, mulOk, negF, eqD, neD, isN, notN, ixD_t, ixD_l, ixD_f, lenD_t, lenD_l, lenD_f, lenL, tupD_t, tupD_l, tupD_f, tupL, listD_t, listD_l, listD_f, listL, intD_i, intD_b, absD_e, max2D, min2D, sumL, sumD_t, sumD_l, sortedV_t, sortedV_l, sortedV_f, sortedG_ints, isi_int, isi_bl, isi_tup, isi_lst, isi_str, isi_non, kb_ii, kb_ib, kb_is, kb_it, kb_il, kb_bi, kb_bb, kb_bs, kb_bt, kb_bl, kb_ti, kb_tb, kb_ts, kb_tt, kb_tl, kb_li, kb_lb, kb_ls, kb_lt, kb_ll, kb_si, kb_sb, kb_ss, kb_st, kb_sl, kb_ni, kb_nb, kb_ns, kb_nt, kb_nl, nxt, never, brk, ctn, itS, parA, mnil, mcv, mco, setAll, tgN, tgT, tgsC, tgs0, yes, lcStep, wipeS, wipeL, backS, backL, keepS, intsD_map, boolsD_map, sortRo, revF, revD, callN, callI, ownO, putO, ixO, setIx, appE, Option.bind_some, Option.map_some, Option.bind_none, Option.map_none, List.length_cons, List.length_nil, List.length_map, List.map_cons, List.map_nil, List.cons_append, List.nil_append, List.append_nil, List.replicate_succ, List.replicate_zero, List.reduceReplicate, List.getElem?_cons_zero, List.getElem?_cons_succ, List.getElem?_nil, List.set_cons_zero, List.set_cons_succ, Nat.reduceAdd, Nat.reduceSub, Nat.reduceMul, Nat.reduceEqDiff, Nat.reduceLeDiff, Nat.reduceLT, Int.add_zero, Int.zero_add, List.map_reverse, Nat.reduceBEq, Int.reduceAdd, Int.reduceSub, Int.reduceLT, Int.reduceLE, Int.reduceEq, Int.reduceNeg, Int.reduceToNat, Int.reduceMul, Nat.zero_add, Nat.add_zero, if_true, if_false, reduceIte, decide_true, decide_false, decide_eq_true_eq, Bool.not_true, Bool.not_false, Bool.and_true, Bool.true_and, Bool.and_self, Bool.and_false, Bool.false_and, Bool.or_true, Bool.true_or, Bool.or_false, Bool.false_or, Bool.false_eq_true, Bool.true_eq_false, and_self, and_true, true_and, true_or, or_true, Bool.or_self, Bool.not_not, Function.comp_apply, ne_eq, not_true_eq_false, not_false_eq_true, allL_yes, List.filterMap_cons, List.filterMap_nil, rowD, this]
  have e2 := e_shared ((rowsN n).map rankP) b (by omega) (by omega)
  have c1 := e_check_within n 0 24 h0 h
  have c2 := e_check_within b 2 20 b0 b1
  refine runV_e ⟨[.v (.int n), .v (.int b), .no], []⟩ rfl rfl (o := some (.rt (.tup ((sharedP ((rowsN n).map rankP) b).map .int)) ⟨[.v (.int n), .v (.int b), .no], []⟩)) ?_ rfl
  unfold g_by_rank
  rw [seqs_nx (s' := ⟨[.v (.int n), .v (.int b), .no], []⟩) (by simp only [runV, runI, entV, entI, endV, endI, seqs, ifs, retv, reto, setv, seto, asg, drop1, retn, getv, geto, cst, bor, ofO, ofV, asL, seqD, bin2, bin2o, tst, chn, andv, orv, notv, ifv, andt, ort, nott, anil, acons, astar, astarB, mkT, mkL, call1, callo, callF, callFo, callKF, perm, rtD, S.setv, S.setO, szOk, subD_e, ltD_e, leD_e, gtD_e, geD_e, modD_e, fdivD_e, powD_e, addD_i, addD_l, addD_t, mulT_i, mulT_l, mulT_t, mulOk, negF, eqD, neD, isN, notN, ixD_t, ixD_l, ixD_f, lenD_t, lenD_l, lenD_f, lenL, tupD_t, tupD_l, tupD_f, tupL, listD_t, listD_l, listD_f, listL, intD_i, intD_b, absD_e, max2D, min2D, sumL, sumD_t, sumD_l, sortedV_t, sortedV_l, sortedV_f, sortedG_ints, isi_int, isi_bl, isi_tup, isi_lst, isi_str, isi_non, kb_ii, kb_ib, kb_is, kb_it, kb_il, kb_bi, kb_bb, kb_bs, kb_bt, kb_bl, kb_ti, kb_tb, kb_ts, kb_tt, kb_tl, kb_li, kb_lb, kb_ls, kb_lt, kb_ll, kb_si, kb_sb, kb_ss, kb_st, kb_sl, kb_ni, kb_nb, kb_ns, kb_nt, kb_nl, nxt, never, brk, ctn, itS, parA, mnil, mcv, mco, setAll, tgN, tgT, tgsC, tgs0, yes, lcStep, wipeS, wipeL, backS, backL, keepS, intsD_map, boolsD_map, sortRo, revF, revD, callN, callI, ownO, putO, ixO, setIx, appE, Option.bind_some, Option.map_some, Option.bind_none, Option.map_none, List.length_cons, List.length_nil, List.length_map, List.map_cons, List.map_nil, List.cons_append, List.nil_append, List.append_nil, List.replicate_succ, List.replicate_zero, List.reduceReplicate, List.getElem?_cons_zero, List.getElem?_cons_succ, List.getElem?_nil, List.set_cons_zero, List.set_cons_succ, Nat.reduceAdd, Nat.reduceSub, Nat.reduceMul, Nat.reduceEqDiff, Nat.reduceLeDiff, Nat.reduceLT, Int.add_zero, Int.zero_add, List.map_reverse, Nat.reduceBEq, Int.reduceAdd, Int.reduceSub, Int.reduceLT, Int.reduceLE, Int.reduceEq, Int.reduceNeg, Int.reduceToNat, Int.reduceMul, Nat.zero_add, Nat.add_zero, if_true, if_false, reduceIte, decide_true, decide_false, decide_eq_true_eq, Bool.not_true, Bool.not_false, Bool.and_true, Bool.true_and, Bool.and_self, Bool.and_false, Bool.false_and, Bool.or_true, Bool.true_or, Bool.or_false, Bool.false_or, Bool.false_eq_true, Bool.true_eq_false, and_self, and_true, true_and, true_or, or_true, Bool.or_self, Bool.not_not, Function.comp_apply, ne_eq, not_true_eq_false, not_false_eq_true, allL_yes, List.filterMap_cons, List.filterMap_nil, c1]), seqs_nx (s' := ⟨[.v (.int n), .v (.int b), .no], []⟩) (by simp only [runV, runI, entV, entI, endV, endI, seqs, ifs, retv, reto, setv, seto, asg, drop1, retn, getv, geto, cst, bor, ofO, ofV, asL, seqD, bin2, bin2o, tst, chn, andv, orv, notv, ifv, andt, ort, nott, anil, acons, astar, astarB, mkT, mkL, call1, callo, callF, callFo, callKF, perm, rtD, S.setv, S.setO, szOk, subD_e, ltD_e, leD_e, gtD_e, geD_e, modD_e, fdivD_e, powD_e, addD_i, addD_l, addD_t, mulT_i, mulT_l, mulT_t, mulOk, negF, eqD, neD, isN, notN, ixD_t, ixD_l, ixD_f, lenD_t, lenD_l, lenD_f, lenL, tupD_t, tupD_l, tupD_f, tupL, listD_t, listD_l, listD_f, listL, intD_i, intD_b, absD_e, max2D, min2D, sumL, sumD_t, sumD_l, sortedV_t, sortedV_l, sortedV_f, sortedG_ints, isi_int, isi_bl, isi_tup, isi_lst, isi_str, isi_non, kb_ii, kb_ib, kb_is, kb_it, kb_il, kb_bi, kb_bb, kb_bs, kb_bt, kb_bl, kb_ti, kb_tb, kb_ts, kb_tt, kb_tl, kb_li, kb_lb, kb_ls, kb_lt, kb_ll, kb_si, kb_sb, kb_ss, kb_st, kb_sl, kb_ni, kb_nb, kb_ns, kb_nt, kb_nl, nxt, never, brk, ctn, itS, parA, mnil, mcv, mco, setAll, tgN, tgT, tgsC, tgs0, yes, lcStep, wipeS, wipeL, backS, backL, keepS, intsD_map, boolsD_map, sortRo, revF, revD, callN, callI, ownO, putO, ixO, setIx, appE, Option.bind_some, Option.map_some, Option.bind_none, Option.map_none, List.length_cons, List.length_nil, List.length_map, List.map_cons, List.map_nil, List.cons_append, List.nil_append, List.append_nil, List.replicate_succ, List.replicate_zero, List.reduceReplicate, List.getElem?_cons_zero, List.getElem?_cons_succ, List.getElem?_nil, List.set_cons_zero, List.set_cons_succ, Nat.reduceAdd, Nat.reduceSub, Nat.reduceMul, Nat.reduceEqDiff, Nat.reduceLeDiff, Nat.reduceLT, Int.add_zero, Int.zero_add, List.map_reverse, Nat.reduceBEq, Int.reduceAdd, Int.reduceSub, Int.reduceLT, Int.reduceLE, Int.reduceEq, Int.reduceNeg, Int.reduceToNat, Int.reduceMul, Nat.zero_add, Nat.add_zero, if_true, if_false, reduceIte, decide_true, decide_false, decide_eq_true_eq, Bool.not_true, Bool.not_false, Bool.and_true, Bool.true_and, Bool.and_self, Bool.and_false, Bool.false_and, Bool.or_true, Bool.true_or, Bool.or_false, Bool.false_or, Bool.false_eq_true, Bool.true_eq_false, and_self, and_true, true_and, true_or, or_true, Bool.or_self, Bool.not_not, Function.comp_apply, ne_eq, not_true_eq_false, not_false_eq_true, allL_yes, List.filterMap_cons, List.filterMap_nil, c2])]
  simp only [runV, runI, entV, entI, endV, endI, seqs, ifs, retv, reto, setv, seto, asg, drop1, retn, getv, geto, cst, bor, ofO, ofV, asL, seqD, bin2, bin2o, tst, chn, andv, orv, notv, ifv, andt, ort, nott, anil, acons, astar, astarB, mkT, mkL, call1, callo, callF, callFo, callKF, perm, rtD, S.setv, S.setO, szOk, subD_e, ltD_e, leD_e, gtD_e, geD_e, modD_e, fdivD_e, powD_e, addD_i, addD_l, addD_t, mulT_i, mulT_l, mulT_t, mulOk, negF, eqD, neD, isN, notN, ixD_t, ixD_l, ixD_f, lenD_t, lenD_l, lenD_f, lenL, tupD_t, tupD_l, tupD_f, tupL, listD_t, listD_l, listD_f, listL, intD_i, intD_b, absD_e, max2D, min2D, sumL, sumD_t, sumD_l, sortedV_t, sortedV_l, sortedV_f, sortedG_ints, isi_int, isi_bl, isi_tup, isi_lst, isi_str, isi_non, kb_ii, kb_ib, kb_is, kb_it, kb_il, kb_bi, kb_bb, kb_bs, kb_bt, kb_bl, kb_ti, kb_tb, kb_ts, kb_tt, kb_tl, kb_li, kb_lb, kb_ls, kb_lt, kb_ll, kb_si, kb_sb, kb_ss, kb_st, kb_sl, kb_ni, kb_nb, kb_ns, kb_nt, kb_nl, nxt, never, brk, ctn, itS, parA, mnil, mcv, mco, setAll, tgN, tgT, tgsC, tgs0, yes, lcStep, wipeS, wipeL, backS, backL, keepS, intsD_map, boolsD_map, sortRo, revF, revD, callN, callI, ownO, putO, ixO, setIx, appE, Option.bind_some, Option.map_some, Option.bind_none, Option.map_none, List.length_cons, List.length_nil, List.length_map, List.map_cons, List.map_nil, List.cons_append, List.nil_append, List.append_nil, List.replicate_succ, List.replicate_zero, List.reduceReplicate, List.getElem?_cons_zero, List.getElem?_cons_succ, List.getElem?_nil, List.set_cons_zero, List.set_cons_succ, Nat.reduceAdd, Nat.reduceSub, Nat.reduceMul, Nat.reduceEqDiff, Nat.reduceLeDiff, Nat.reduceLT, Int.add_zero, Int.zero_add, List.map_reverse, Nat.reduceBEq, Int.reduceAdd, Int.reduceSub, Int.reduceLT, Int.reduceLE, Int.reduceEq, Int.reduceNeg, Int.reduceToNat, Int.reduceMul, Nat.zero_add, Nat.add_zero, if_true, if_false, reduceIte, decide_true, decide_false, decide_eq_true_eq, Bool.not_true, Bool.not_false, Bool.and_true, Bool.true_and, Bool.and_self, Bool.and_false, Bool.false_and, Bool.or_true, Bool.true_or, Bool.or_false, Bool.false_or, Bool.false_eq_true, Bool.true_eq_false, and_self, and_true, true_and, true_or, or_true, Bool.or_self, Bool.not_not, Function.comp_apply, ne_eq, not_true_eq_false, not_false_eq_true, allL_yes, List.filterMap_cons, List.filterMap_nil, e1, e2]
/-! the plain law of the numbers -/
theorem counts_eq : ∀ n < 19, ((rowsN (n : Nat)).filter fun r => decide (rankP r ≤ -2)).length = ((rowsN (n : Nat)).filter fun r => decide (2 ≤ rankP r)).length := by decide +kernel
def sym (marks : List Int) (b : Nat) : Bool := decide ((sharedP marks b).drop 1 = ((sharedP marks b).drop 1).reverse)
def symAll (n : Nat) : Bool := (List.range 19).all fun b => sym ((rowsN n).map rankP) (b + 2)
theorem sym_all : ∀ n < 19, symAll n = true := by decide +kernel
end K65
namespace K65
open PySem L2 DL DLT PyProof.Rows
def dueB : S → Option Fl := (seqs (setv 8 (bin2 (call1 (acons (callF F_rank (acons (getv 4) anil)) anil) DL.intD) (getv 5) modD))
  (setIx 7 (bin2 (ixO 7 (getv 8)) (cst (.int 1)) addD) (getv 8)))
theorem due_step (b : Int) (h0 : 0 < b) (acc r : List Int) (hr : Ok r) (hl : acc.length = b.toNat) (s1 s2 s3 s4 s5 j : Sl) (m : List D) :
    (tgN 4 (rowD r) ⟨[.io, s1, s2, s3, s5, .v (.int b), s4, .own (acc.map .int), j], m⟩).bind dueB
      = some (.nx ⟨[.io, s1, s2, s3, .v (rowD r), .v (.int b), s4, .own ((shareF b acc (rankP r)).map .int), .v (.int (rankP r % b))], m⟩) := by
  have z1 := Int.emod_nonneg (rankP r) (show b ≠ 0 by omega)
  have z2 := Int.emod_lt_of_pos (rankP r) h0
  have e1 := atI_ints acc (rankP r % b) z1 (by omega)
  have e2 : ixN acc.length (rankP r % b) = some (rankP r % b).toNat := ixN_in z1 (by omega)
  have e3 := e_rank r hr
  simp only [dueB, rowD, runV, runI, entV, entI, endV, endI, seqs, ifs, retv, reto, setv, seto, asg, drop1, retn, getv, geto, cst, bor, ofO, ofV, asL, seqD, bin2, bin2o, tst, chn, andv, orv, notv, ifv, andt, ort, nott, anil, acons, astar, astarB, mkT, mkL, call1, callo, callF, callFo, callKF, perm, rtD, S.setv, S.setO, szOk, subD_e, ltD_e, leD_e, gtD_e, geD_e, modD_e, fdivD_e, powD_e, addD_i, addD_l, addD_t, mulT_i, mulT_l, mulT_t, mulOk, negF, eqD, neD, isN, notN, ixD_t, ixD_l, ixD_f, lenD_t, lenD_l, lenD_f, lenL, tupD_t, tupD_l, tupD_f, tupL, listD_t, listD_l, listD_f, listL, intD_i, intD_b, absD_e, max2D, min2D, sumL, sumD_t, sumD_l, sortedV_t, sortedV_l, sortedV_f, sortedG_ints, isi_int, isi_bl, isi_tup, isi_lst, isi_str, isi_non, kb_ii, kb_ib, kb_is, kb_it, kb_il, kb_bi, kb_bb, kb_bs, kb_bt, kb_bl, kb_ti, kb_tb, kb_ts, kb_tt, kb_tl, kb_li, kb_lb, kb_ls, kb_lt, kb_ll, kb_si, kb_sb, kb_ss, kb_st, kb_sl, kb_ni, kb_nb, kb_ns, kb_nt, kb_nl, nxt, never, brk, ctn, itS, parA, mnil, mcv, mco, setAll, tgN, tgT, tgsC, tgs0, yes, lcStep, wipeS, wipeL, backS, backL, keepS, intsD_map, boolsD_map, sortRo, revF, revD, callN, callI, ownO, putO, ixO, setIx, appE, Option.bind_some, Option.map_some, Option.bind_none, Option.map_none, List.length_cons, List.length_nil, List.length_map, List.map_cons, List.map_nil, List.cons_append, List.nil_append, List.append_nil, List.replicate_succ, List.replicate_zero, List.reduceReplicate, List.getElem?_cons_zero, List.getElem?_cons_succ, List.getElem?_nil, List.set_cons_zero, List.set_cons_succ, Nat.reduceAdd, Nat.reduceSub, Nat.reduceMul, Nat.reduceEqDiff, Nat.reduceLeDiff, Nat.reduceLT, Int.add_zero, Int.zero_add, List.map_reverse, Nat.reduceBEq, Int.reduceAdd, Int.reduceSub, Int.reduceLT, Int.reduceLE, Int.reduceEq, Int.reduceNeg, Int.reduceToNat, Int.reduceMul, Nat.zero_add, Nat.add_zero, if_true, if_false, reduceIte, decide_true, decide_false, decide_eq_true_eq, Bool.not_true, Bool.not_false, Bool.and_true, Bool.true_and, Bool.and_self, Bool.and_false, Bool.false_and, Bool.or_true, Bool.true_or, Bool.or_false, Bool.false_or, Bool.false_eq_true, Bool.true_eq_false, and_self, and_true, true_and, true_or, or_true, Bool.or_self, Bool.not_not, Function.comp_apply, ne_eq, not_true_eq_false, not_false_eq_true, allL_yes, List.filterMap_cons, List.filterMap_nil, putO, shareF, h0, e1, e2, e3, List.map_set]
theorem foldl_map' {α β γ : Type} (f : γ → β → γ) (g : α → β) : ∀ (l : List α) (a : γ), (l.map g).foldl f a = l.foldl (fun a x => f a (g x)) a
  | [], a => rfl
  | x :: l, a => by rw [List.map_cons, List.foldl_cons, List.foldl_cons, foldl_map' f g l]
theorem cut_one (xs : List Int) : DL.cutD (xs.map .int) (some 1) none = (xs.drop 1).map .int := by
  unfold DL.cutD
  have e1 : HT.sIx (xs.map D.int).length 0 (some 1) = min 1 (xs.map D.int).length := by unfold HT.sIx; rfl
  have e2 : HT.sIx (xs.map D.int).length (xs.map D.int).length none = (xs.map D.int).length := rfl
  rw [e1, e2, List.map_drop]
  cases xs with
  | nil => rfl
  | cons x xs =>
    have : min 1 ((x :: xs).map D.int).length = 1 := by simp
    rw [this]
    exact List.take_of_length_le (by simp)
theorem e_number_right (a b n : Int) (h0 : 0 ≤ n) (h18 : n < 19) : ∃ a' b', F__law_number_right [.int a, .int b] [.int n] = some (.v (.bl true), [.int a', .int b']) := by
  obtain ⟨v, a1, b1, d1, v0, v1⟩ := e_draw a b 19 (by omega) (by omega)
  have hr : ∀ r ∈ rowsN n, Ok r := fun r hr => rowsN_ok h0 (by omega) hr
  have hl := rowsN_len h0 (show n ≤ 24 by omega)
  have en : n = (n.toNat : Int) := by omega
  have s1 : setv 2 (callF F_all_rows (acons (getv 1) anil)) ⟨[.io, .v (.int n), .no, .no, .no, .no, .no, .no, .no], [.int a, .int b]⟩ = some (.nx ⟨[.io, .v (.int n), .v (.tup ((rowsN n).map rowD)), .no, .no, .no, .no, .no, .no], [.int a, .int b]⟩) := by
    simp only [runV, runI, entV, entI, endV, endI, seqs, ifs, retv, reto, setv, seto, asg, drop1, retn, getv, geto, cst, bor, ofO, ofV, asL, seqD, bin2, bin2o, tst, chn, andv, orv, notv, ifv, andt, ort, nott, anil, acons, astar, astarB, mkT, mkL, call1, callo, callF, callFo, callKF, perm, rtD, S.setv, S.setO, szOk, subD_e, ltD_e, leD_e, gtD_e, geD_e, modD_e, fdivD_e, powD_e, addD_i, addD_l, addD_t, mulT_i, mulT_l, mulT_t, mulOk, negF, eqD, neD, isN, notN, ixD_t, ixD_l, ixD_f, lenD_t, lenD_l, lenD_f, lenL, tupD_t, tupD_l, tupD_f, tupL, listD_t, listD_l, listD_f, listL, intD_i, intD_b, absD_e, max2D, min2D, sumL, sumD_t, sumD_l, sortedV_t, sortedV_l, sortedV_f, sortedG_ints, isi_int, isi_bl, isi_tup, isi_lst, isi_str, isi_non, kb_ii, kb_ib, kb_is, kb_it, kb_il, kb_bi, kb_bb, kb_bs, kb_bt, kb_bl, kb_ti, kb_tb, kb_ts, kb_tt, kb_tl, kb_li, kb_lb, kb_ls, kb_lt, kb_ll, kb_si, kb_sb, kb_ss, kb_st, kb_sl, kb_ni, kb_nb, kb_ns, kb_nt, kb_nl, nxt, never, brk, ctn, itS, parA, mnil, mcv, mco, setAll, tgN, tgT, tgsC, tgs0, yes, lcStep, wipeS, wipeL, backS, backL, keepS, intsD_map, boolsD_map, sortRo, revF, revD, callN, callI, ownO, putO, ixO, setIx, appE, Option.bind_some, Option.map_some, Option.bind_none, Option.map_none, List.length_cons, List.length_nil, List.length_map, List.map_cons, List.map_nil, List.cons_append, List.nil_append, List.append_nil, List.replicate_succ, List.replicate_zero, List.reduceReplicate, List.getElem?_cons_zero, List.getElem?_cons_succ, List.getElem?_nil, List.set_cons_zero, List.set_cons_succ, Nat.reduceAdd, Nat.reduceSub, Nat.reduceMul, Nat.reduceEqDiff, Nat.reduceLeDiff, Nat.reduceLT, Int.add_zero, Int.zero_add, List.map_reverse, Nat.reduceBEq, Int.reduceAdd, Int.reduceSub, Int.reduceLT, Int.reduceLE, Int.reduceEq, Int.reduceNeg, Int.reduceToNat, Int.reduceMul, Nat.zero_add, Nat.add_zero, if_true, if_false, reduceIte, decide_true, decide_false, decide_eq_true_eq, Bool.not_true, Bool.not_false, Bool.and_true, Bool.true_and, Bool.and_self, Bool.and_false, Bool.false_and, Bool.or_true, Bool.true_or, Bool.or_false, Bool.false_or, Bool.false_eq_true, Bool.true_eq_false, and_self, and_true, true_and, true_or, or_true, Bool.or_self, Bool.not_not, Function.comp_apply, ne_eq, not_true_eq_false, not_false_eq_true, allL_yes, List.filterMap_cons, List.filterMap_nil, e_all_rows n h0 (by omega)]
  have l2 : lcS [4] (itS (getv 2)) (tgN 4) (tst (callF F_is_garden (acons (getv 4) anil))) (getv 4) ⟨[.io, .v (.int n), .v (.tup ((rowsN n).map rowD)), .no, .no, .no, .no, .no, .no], [.int a, .int b]⟩
      = some (((rowsN n).filter fun r => decide (rankP r ≤ -2)).map rowD, ⟨[.io, .v (.int n), .v (.tup ((rowsN n).map rowD)), .no, .no, .no, .no, .no, .no], [.int a, .int b]⟩) := by
    refine lcS_flt (s1 := ⟨[.io, .v (.int n), .v (.tup ((rowsN n).map rowD)), .no, .no, .no, .no, .no, .no], [.int a, .int b]⟩) rowD _ rowD (rowsN n) (by simp only [runV, runI, entV, entI, endV, endI, seqs, ifs, retv, reto, setv, seto, asg, drop1, retn, getv, geto, cst, bor, ofO, ofV, asL, seqD, bin2, bin2o, tst, chn, andv, orv, notv, ifv, andt, ort, nott, anil, acons, astar, astarB, mkT, mkL, call1, callo, callF, callFo, callKF, perm, rtD, S.setv, S.setO, szOk, subD_e, ltD_e, leD_e, gtD_e, geD_e, modD_e, fdivD_e, powD_e, addD_i, addD_l, addD_t, mulT_i, mulT_l, mulT_t, mulOk, negF, eqD, neD, isN, notN, ixD_t, ixD_l, ixD_f, lenD_t, lenD_l, lenD_f, lenL, tupD_t, tupD_l, tupD_f, tupL, listD_t, listD_l, listD_f, listL, intD_i, intD_b, absD_e, max2D, min2D, sumL, sumD_t, sumD_l, sortedV_t, sortedV_l, sortedV_f, sortedG_ints, isi_int, isi_bl, isi_tup, isi_lst, isi_str, isi_non, kb_ii, kb_ib, kb_is, kb_it, kb_il, kb_bi, kb_bb, kb_bs, kb_bt, kb_bl, kb_ti, kb_tb, kb_ts, kb_tt, kb_tl, kb_li, kb_lb, kb_ls, kb_lt, kb_ll, kb_si, kb_sb, kb_ss, kb_st, kb_sl, kb_ni, kb_nb, kb_ns, kb_nt, kb_nl, nxt, never, brk, ctn, itS, parA, mnil, mcv, mco, setAll, tgN, tgT, tgsC, tgs0, yes, lcStep, wipeS, wipeL, backS, backL, keepS, intsD_map, boolsD_map, sortRo, revF, revD, callN, callI, ownO, putO, ixO, setIx, appE, Option.bind_some, Option.map_some, Option.bind_none, Option.map_none, List.length_cons, List.length_nil, List.length_map, List.map_cons, List.map_nil, List.cons_append, List.nil_append, List.append_nil, List.replicate_succ, List.replicate_zero, List.reduceReplicate, List.getElem?_cons_zero, List.getElem?_cons_succ, List.getElem?_nil, List.set_cons_zero, List.set_cons_succ, Nat.reduceAdd, Nat.reduceSub, Nat.reduceMul, Nat.reduceEqDiff, Nat.reduceLeDiff, Nat.reduceLT, Int.add_zero, Int.zero_add, List.map_reverse, Nat.reduceBEq, Int.reduceAdd, Int.reduceSub, Int.reduceLT, Int.reduceLE, Int.reduceEq, Int.reduceNeg, Int.reduceToNat, Int.reduceMul, Nat.zero_add, Nat.add_zero, if_true, if_false, reduceIte, decide_true, decide_false, decide_eq_true_eq, Bool.not_true, Bool.not_false, Bool.and_true, Bool.true_and, Bool.and_self, Bool.and_false, Bool.false_and, Bool.or_true, Bool.true_or, Bool.or_false, Bool.false_or, Bool.false_eq_true, Bool.true_eq_false, and_self, and_true, true_and, true_or, or_true, Bool.or_self, Bool.not_not, Function.comp_apply, ne_eq, not_true_eq_false, not_false_eq_true, allL_yes, List.filterMap_cons, List.filterMap_nil]) hl fun r hr' => ?_
    have e := e_is_garden r (hr r hr')
    have g := garden_iff (hr r hr')
    by_cases hk : rankP r ≤ -2
    · rw [decide_eq_true (g.mpr hk)] at e
      simp only [runV, runI, entV, entI, endV, endI, seqs, ifs, retv, reto, setv, seto, asg, drop1, retn, getv, geto, cst, bor, ofO, ofV, asL, seqD, bin2, bin2o, tst, chn, andv, orv, notv, ifv, andt, ort, nott, anil, acons, astar, astarB, mkT, mkL, call1, callo, callF, callFo, callKF, perm, rtD, S.setv, S.setO, szOk, subD_e, ltD_e, leD_e, gtD_e, geD_e, modD_e, fdivD_e, powD_e, addD_i, addD_l, addD_t, mulT_i, mulT_l, mulT_t, mulOk, negF, eqD, neD, isN, notN, ixD_t, ixD_l, ixD_f, lenD_t, lenD_l, lenD_f, lenL, tupD_t, tupD_l, tupD_f, tupL, listD_t, listD_l, listD_f, listL, intD_i, intD_b, absD_e, max2D, min2D, sumL, sumD_t, sumD_l, sortedV_t, sortedV_l, sortedV_f, sortedG_ints, isi_int, isi_bl, isi_tup, isi_lst, isi_str, isi_non, kb_ii, kb_ib, kb_is, kb_it, kb_il, kb_bi, kb_bb, kb_bs, kb_bt, kb_bl, kb_ti, kb_tb, kb_ts, kb_tt, kb_tl, kb_li, kb_lb, kb_ls, kb_lt, kb_ll, kb_si, kb_sb, kb_ss, kb_st, kb_sl, kb_ni, kb_nb, kb_ns, kb_nt, kb_nl, nxt, never, brk, ctn, itS, parA, mnil, mcv, mco, setAll, tgN, tgT, tgsC, tgs0, yes, lcStep, wipeS, wipeL, backS, backL, keepS, intsD_map, boolsD_map, sortRo, revF, revD, callN, callI, ownO, putO, ixO, setIx, appE, Option.bind_some, Option.map_some, Option.bind_none, Option.map_none, List.length_cons, List.length_nil, List.length_map, List.map_cons, List.map_nil, List.cons_append, List.nil_append, List.append_nil, List.replicate_succ, List.replicate_zero, List.reduceReplicate, List.getElem?_cons_zero, List.getElem?_cons_succ, List.getElem?_nil, List.set_cons_zero, List.set_cons_succ, Nat.reduceAdd, Nat.reduceSub, Nat.reduceMul, Nat.reduceEqDiff, Nat.reduceLeDiff, Nat.reduceLT, Int.add_zero, Int.zero_add, List.map_reverse, Nat.reduceBEq, Int.reduceAdd, Int.reduceSub, Int.reduceLT, Int.reduceLE, Int.reduceEq, Int.reduceNeg, Int.reduceToNat, Int.reduceMul, Nat.zero_add, Nat.add_zero, if_true, if_false, reduceIte, decide_true, decide_false, decide_eq_true_eq, Bool.not_true, Bool.not_false, Bool.and_true, Bool.true_and, Bool.and_self, Bool.and_false, Bool.false_and, Bool.or_true, Bool.true_or, Bool.or_false, Bool.false_or, Bool.false_eq_true, Bool.true_eq_false, and_self, and_true, true_and, true_or, or_true, Bool.or_self, Bool.not_not, Function.comp_apply, ne_eq, not_true_eq_false, not_false_eq_true, allL_yes, List.filterMap_cons, List.filterMap_nil, rowD, e, hk]
    · rw [decide_eq_false (fun z => hk (g.mp z))] at e
      simp only [runV, runI, entV, entI, endV, endI, seqs, ifs, retv, reto, setv, seto, asg, drop1, retn, getv, geto, cst, bor, ofO, ofV, asL, seqD, bin2, bin2o, tst, chn, andv, orv, notv, ifv, andt, ort, nott, anil, acons, astar, astarB, mkT, mkL, call1, callo, callF, callFo, callKF, perm, rtD, S.setv, S.setO, szOk, subD_e, ltD_e, leD_e, gtD_e, geD_e, modD_e, fdivD_e, powD_e, addD_i, addD_l, addD_t, mulT_i, mulT_l, mulT_t, mulOk, negF, eqD, neD, isN, notN, ixD_t, ixD_l, ixD_f, lenD_t, lenD_l, lenD_f, lenL, tupD_t, tupD_l, tupD_f, tupL, listD_t, listD_l, listD_f, listL, intD_i, intD_b, absD_e, max2D, min2D, sumL, sumD_t, sumD_l, sortedV_t, sortedV_l, sortedV_f, sortedG_ints, isi_int, isi_bl, isi_tup, isi_lst, isi_str, isi_non, kb_ii, kb_ib, kb_is, kb_it, kb_il, kb_bi, kb_bb, kb_bs, kb_bt, kb_bl, kb_ti, kb_tb, kb_ts, kb_tt, kb_tl, kb_li, kb_lb, kb_ls, kb_lt, kb_ll, kb_si, kb_sb, kb_ss, kb_st, kb_sl, kb_ni, kb_nb, kb_ns, kb_nt, kb_nl, nxt, never, brk, ctn, itS, parA, mnil, mcv, mco, setAll, tgN, tgT, tgsC, tgs0, yes, lcStep, wipeS, wipeL, backS, backL, keepS, intsD_map, boolsD_map, sortRo, revF, revD, callN, callI, ownO, putO, ixO, setIx, appE, Option.bind_some, Option.map_some, Option.bind_none, Option.map_none, List.length_cons, List.length_nil, List.length_map, List.map_cons, List.map_nil, List.cons_append, List.nil_append, List.append_nil, List.replicate_succ, List.replicate_zero, List.reduceReplicate, List.getElem?_cons_zero, List.getElem?_cons_succ, List.getElem?_nil, List.set_cons_zero, List.set_cons_succ, Nat.reduceAdd, Nat.reduceSub, Nat.reduceMul, Nat.reduceEqDiff, Nat.reduceLeDiff, Nat.reduceLT, Int.add_zero, Int.zero_add, List.map_reverse, Nat.reduceBEq, Int.reduceAdd, Int.reduceSub, Int.reduceLT, Int.reduceLE, Int.reduceEq, Int.reduceNeg, Int.reduceToNat, Int.reduceMul, Nat.zero_add, Nat.add_zero, if_true, if_false, reduceIte, decide_true, decide_false, decide_eq_true_eq, Bool.not_true, Bool.not_false, Bool.and_true, Bool.true_and, Bool.and_self, Bool.and_false, Bool.false_and, Bool.or_true, Bool.true_or, Bool.or_false, Bool.false_or, Bool.false_eq_true, Bool.true_eq_false, and_self, and_true, true_and, true_or, or_true, Bool.or_self, Bool.not_not, Function.comp_apply, ne_eq, not_true_eq_false, not_false_eq_true, allL_yes, List.filterMap_cons, List.filterMap_nil, rowD, e, hk]
  have s2 : setv 3 (ofO (lcS [4] (itS (getv 2)) (tgN 4) (tst (callF F_is_garden (acons (getv 4) anil))) (getv 4))) ⟨[.io, .v (.int n), .v (.tup ((rowsN n).map rowD)), .no, .no, .no, .no, .no, .no], [.int a, .int b]⟩
      = some (.nx ⟨[.io, .v (.int n), .v (.tup ((rowsN n).map rowD)), .v (.lst (((rowsN n).filter fun r => decide (rankP r ≤ -2)).map rowD)), .no, .no, .no, .no, .no], [.int a, .int b]⟩) := by
    simp only [runV, runI, entV, entI, endV, endI, seqs, ifs, retv, reto, setv, seto, asg, drop1, retn, getv, geto, cst, bor, ofO, ofV, asL, seqD, bin2, bin2o, tst, chn, andv, orv, notv, ifv, andt, ort, nott, anil, acons, astar, astarB, mkT, mkL, call1, callo, callF, callFo, callKF, perm, rtD, S.setv, S.setO, szOk, subD_e, ltD_e, leD_e, gtD_e, geD_e, modD_e, fdivD_e, powD_e, addD_i, addD_l, addD_t, mulT_i, mulT_l, mulT_t, mulOk, negF, eqD, neD, isN, notN, ixD_t, ixD_l, ixD_f, lenD_t, lenD_l, lenD_f, lenL, tupD_t, tupD_l, tupD_f, tupL, listD_t, listD_l, listD_f, listL, intD_i, intD_b, absD_e, max2D, min2D, sumL, sumD_t, sumD_l, sortedV_t, sortedV_l, sortedV_f, sortedG_ints, isi_int, isi_bl, isi_tup, isi_lst, isi_str, isi_non, kb_ii, kb_ib, kb_is, kb_it, kb_il, kb_bi, kb_bb, kb_bs, kb_bt, kb_bl, kb_ti, kb_tb, kb_ts, kb_tt, kb_tl, kb_li, kb_lb, kb_ls, kb_lt, kb_ll, kb_si, kb_sb, kb_ss, kb_st, kb_sl, kb_ni, kb_nb, kb_ns, kb_nt, kb_nl, nxt, never, brk, ctn, itS, parA, mnil, mcv, mco, setAll, tgN, tgT, tgsC, tgs0, yes, lcStep, wipeS, wipeL, backS, backL, keepS, intsD_map, boolsD_map, sortRo, revF, revD, callN, callI, ownO, putO, ixO, setIx, appE, Option.bind_some, Option.map_some, Option.bind_none, Option.map_none, List.length_cons, List.length_nil, List.length_map, List.map_cons, List.map_nil, List.cons_append, List.nil_append, List.append_nil, List.replicate_succ, List.replicate_zero, List.reduceReplicate, List.getElem?_cons_zero, List.getElem?_cons_succ, List.getElem?_nil, List.set_cons_zero, List.set_cons_succ, Nat.reduceAdd, Nat.reduceSub, Nat.reduceMul, Nat.reduceEqDiff, Nat.reduceLeDiff, Nat.reduceLT, Int.add_zero, Int.zero_add, List.map_reverse, Nat.reduceBEq, Int.reduceAdd, Int.reduceSub, Int.reduceLT, Int.reduceLE, Int.reduceEq, Int.reduceNeg, Int.reduceToNat, Int.reduceMul, Nat.zero_add, Nat.add_zero, if_true, if_false, reduceIte, decide_true, decide_false, decide_eq_true_eq, Bool.not_true, Bool.not_false, Bool.and_true, Bool.true_and, Bool.and_self, Bool.and_false, Bool.false_and, Bool.or_true, Bool.true_or, Bool.or_false, Bool.false_or, Bool.false_eq_true, Bool.true_eq_false, and_self, and_true, true_and, true_or, or_true, Bool.or_self, Bool.not_not, Function.comp_apply, ne_eq, not_true_eq_false, not_false_eq_true, allL_yes, List.filterMap_cons, List.filterMap_nil, l2]
  have l3 : lcS [4] (itS (getv 2)) (tgN 4) (tst (bin2 (callF F_rank (acons (getv 4) anil)) (cst (.int 2)) geD)) (getv 4) ⟨[.io, .v (.int n), .v (.tup ((rowsN n).map rowD)), .v (.lst (((rowsN n).filter fun r => decide (rankP r ≤ -2)).map rowD)), .no, .no, .no, .no, .no], [.int a, .int b]⟩
      = some (((rowsN n).filter fun r => decide (2 ≤ rankP r)).map rowD, ⟨[.io, .v (.int n), .v (.tup ((rowsN n).map rowD)), .v (.lst (((rowsN n).filter fun r => decide (rankP r ≤ -2)).map rowD)), .no, .no, .no, .no, .no], [.int a, .int b]⟩) := by
    refine lcS_flt (s1 := ⟨[.io, .v (.int n), .v (.tup ((rowsN n).map rowD)), .v (.lst (((rowsN n).filter fun r => decide (rankP r ≤ -2)).map rowD)), .no, .no, .no, .no, .no], [.int a, .int b]⟩) rowD _ rowD (rowsN n) (by simp only [runV, runI, entV, entI, endV, endI, seqs, ifs, retv, reto, setv, seto, asg, drop1, retn, getv, geto, cst, bor, ofO, ofV, asL, seqD, bin2, bin2o, tst, chn, andv, orv, notv, ifv, andt, ort, nott, anil, acons, astar, astarB, mkT, mkL, call1, callo, callF, callFo, callKF, perm, rtD, S.setv, S.setO, szOk, subD_e, ltD_e, leD_e, gtD_e, geD_e, modD_e, fdivD_e, powD_e, addD_i, addD_l, addD_t, mulT_i, mulT_l, mulT_t, mulOk, negF, eqD, neD, isN, notN, ixD_t, ixD_l, ixD_f, lenD_t, lenD_l, lenD_f, lenL, tupD_t, tupD_l, tupD_f, tupL, listD_t, listD_l, listD_f, listL, intD_i, intD_b, absD_e, max2D, min2D, sumL, sumD_t, sumD_l, sortedV_t, sortedV_l, sortedV_f, sortedG_ints, isi_int, isi_bl, isi_tup, isi_lst, isi_str, isi_non, kb_ii, kb_ib, kb_is, kb_it, kb_il, kb_bi, kb_bb, kb_bs, kb_bt, kb_bl, kb_ti, kb_tb, kb_ts, kb_tt, kb_tl, kb_li, kb_lb, kb_ls, kb_lt, kb_ll, kb_si, kb_sb, kb_ss, kb_st, kb_sl, kb_ni, kb_nb, kb_ns, kb_nt, kb_nl, nxt, never, brk, ctn, itS, parA, mnil, mcv, mco, setAll, tgN, tgT, tgsC, tgs0, yes, lcStep, wipeS, wipeL, backS, backL, keepS, intsD_map, boolsD_map, sortRo, revF, revD, callN, callI, ownO, putO, ixO, setIx, appE, Option.bind_some, Option.map_some, Option.bind_none, Option.map_none, List.length_cons, List.length_nil, List.length_map, List.map_cons, List.map_nil, List.cons_append, List.nil_append, List.append_nil, List.replicate_succ, List.replicate_zero, List.reduceReplicate, List.getElem?_cons_zero, List.getElem?_cons_succ, List.getElem?_nil, List.set_cons_zero, List.set_cons_succ, Nat.reduceAdd, Nat.reduceSub, Nat.reduceMul, Nat.reduceEqDiff, Nat.reduceLeDiff, Nat.reduceLT, Int.add_zero, Int.zero_add, List.map_reverse, Nat.reduceBEq, Int.reduceAdd, Int.reduceSub, Int.reduceLT, Int.reduceLE, Int.reduceEq, Int.reduceNeg, Int.reduceToNat, Int.reduceMul, Nat.zero_add, Nat.add_zero, if_true, if_false, reduceIte, decide_true, decide_false, decide_eq_true_eq, Bool.not_true, Bool.not_false, Bool.and_true, Bool.true_and, Bool.and_self, Bool.and_false, Bool.false_and, Bool.or_true, Bool.true_or, Bool.or_false, Bool.false_or, Bool.false_eq_true, Bool.true_eq_false, and_self, and_true, true_and, true_or, or_true, Bool.or_self, Bool.not_not, Function.comp_apply, ne_eq, not_true_eq_false, not_false_eq_true, allL_yes, List.filterMap_cons, List.filterMap_nil]) hl fun r hr' => ?_
    have e := e_rank r (hr r hr')
    by_cases hk : 2 ≤ rankP r <;> simp only [runV, runI, entV, entI, endV, endI, seqs, ifs, retv, reto, setv, seto, asg, drop1, retn, getv, geto, cst, bor, ofO, ofV, asL, seqD, bin2, bin2o, tst, chn, andv, orv, notv, ifv, andt, ort, nott, anil, acons, astar, astarB, mkT, mkL, call1, callo, callF, callFo, callKF, perm, rtD, S.setv, S.setO, szOk, subD_e, ltD_e, leD_e, gtD_e, geD_e, modD_e, fdivD_e, powD_e, addD_i, addD_l, addD_t, mulT_i, mulT_l, mulT_t, mulOk, negF, eqD, neD, isN, notN, ixD_t, ixD_l, ixD_f, lenD_t, lenD_l, lenD_f, lenL, tupD_t, tupD_l, tupD_f, tupL, listD_t, listD_l, listD_f, listL, intD_i, intD_b, absD_e, max2D, min2D, sumL, sumD_t, sumD_l, sortedV_t, sortedV_l, sortedV_f, sortedG_ints, isi_int, isi_bl, isi_tup, isi_lst, isi_str, isi_non, kb_ii, kb_ib, kb_is, kb_it, kb_il, kb_bi, kb_bb, kb_bs, kb_bt, kb_bl, kb_ti, kb_tb, kb_ts, kb_tt, kb_tl, kb_li, kb_lb, kb_ls, kb_lt, kb_ll, kb_si, kb_sb, kb_ss, kb_st, kb_sl, kb_ni, kb_nb, kb_ns, kb_nt, kb_nl, nxt, never, brk, ctn, itS, parA, mnil, mcv, mco, setAll, tgN, tgT, tgsC, tgs0, yes, lcStep, wipeS, wipeL, backS, backL, keepS, intsD_map, boolsD_map, sortRo, revF, revD, callN, callI, ownO, putO, ixO, setIx, appE, Option.bind_some, Option.map_some, Option.bind_none, Option.map_none, List.length_cons, List.length_nil, List.length_map, List.map_cons, List.map_nil, List.cons_append, List.nil_append, List.append_nil, List.replicate_succ, List.replicate_zero, List.reduceReplicate, List.getElem?_cons_zero, List.getElem?_cons_succ, List.getElem?_nil, List.set_cons_zero, List.set_cons_succ, Nat.reduceAdd, Nat.reduceSub, Nat.reduceMul, Nat.reduceEqDiff, Nat.reduceLeDiff, Nat.reduceLT, Int.add_zero, Int.zero_add, List.map_reverse, Nat.reduceBEq, Int.reduceAdd, Int.reduceSub, Int.reduceLT, Int.reduceLE, Int.reduceEq, Int.reduceNeg, Int.reduceToNat, Int.reduceMul, Nat.zero_add, Nat.add_zero, if_true, if_false, reduceIte, decide_true, decide_false, decide_eq_true_eq, Bool.not_true, Bool.not_false, Bool.and_true, Bool.true_and, Bool.and_self, Bool.and_false, Bool.false_and, Bool.or_true, Bool.true_or, Bool.or_false, Bool.false_or, Bool.false_eq_true, Bool.true_eq_false, and_self, and_true, true_and, true_or, or_true, Bool.or_self, Bool.not_not, Function.comp_apply, ne_eq, not_true_eq_false, not_false_eq_true, allL_yes, List.filterMap_cons, List.filterMap_nil, rowD, e, hk]
  have hc := counts_eq n.toNat (by omega)
  rw [← en] at hc
  have s3 : (ifs (tst (bin2 (call1 (acons (getv 3) anil) lenD) (call1 (lcS [4] (itS (getv 2)) (tgN 4) (tst (bin2 (callF F_rank (acons (getv 4) anil)) (cst (.int 2)) geD)) (getv 4)) lenL) neD)) (retv (cst (.bl false))) nxt)
      ⟨[.io, .v (.int n), .v (.tup ((rowsN n).map rowD)), .v (.lst (((rowsN n).filter fun r => decide (rankP r ≤ -2)).map rowD)), .no, .no, .no, .no, .no], [.int a, .int b]⟩
      = some (.nx ⟨[.io, .v (.int n), .v (.tup ((rowsN n).map rowD)), .v (.lst (((rowsN n).filter fun r => decide (rankP r ≤ -2)).map rowD)), .no, .no, .no, .no, .no], [.int a, .int b]⟩) := by
    have e := eqB_int (((rowsN n).filter fun r => decide (2 ≤ rankP r)).length : Int) ((rowsN n).filter fun r => decide (2 ≤ rankP r)).length
    rw [decide_eq_true rfl] at e
    simp only [runV, runI, entV, entI, endV, endI, seqs, ifs, retv, reto, setv, seto, asg, drop1, retn, getv, geto, cst, bor, ofO, ofV, asL, seqD, bin2, bin2o, tst, chn, andv, orv, notv, ifv, andt, ort, nott, anil, acons, astar, astarB, mkT, mkL, call1, callo, callF, callFo, callKF, perm, rtD, S.setv, S.setO, szOk, subD_e, ltD_e, leD_e, gtD_e, geD_e, modD_e, fdivD_e, powD_e, addD_i, addD_l, addD_t, mulT_i, mulT_l, mulT_t, mulOk, negF, eqD, neD, isN, notN, ixD_t, ixD_l, ixD_f, lenD_t, lenD_l, lenD_f, lenL, tupD_t, tupD_l, tupD_f, tupL, listD_t, listD_l, listD_f, listL, intD_i, intD_b, absD_e, max2D, min2D, sumL, sumD_t, sumD_l, sortedV_t, sortedV_l, sortedV_f, sortedG_ints, isi_int, isi_bl, isi_tup, isi_lst, isi_str, isi_non, kb_ii, kb_ib, kb_is, kb_it, kb_il, kb_bi, kb_bb, kb_bs, kb_bt, kb_bl, kb_ti, kb_tb, kb_ts, kb_tt, kb_tl, kb_li, kb_lb, kb_ls, kb_lt, kb_ll, kb_si, kb_sb, kb_ss, kb_st, kb_sl, kb_ni, kb_nb, kb_ns, kb_nt, kb_nl, nxt, never, brk, ctn, itS, parA, mnil, mcv, mco, setAll, tgN, tgT, tgsC, tgs0, yes, lcStep, wipeS, wipeL, backS, backL, keepS, intsD_map, boolsD_map, sortRo, revF, revD, callN, callI, ownO, putO, ixO, setIx, appE, Option.bind_some, Option.map_some, Option.bind_none, Option.map_none, List.length_cons, List.length_nil, List.length_map, List.map_cons, List.map_nil, List.cons_append, List.nil_append, List.append_nil, List.replicate_succ, List.replicate_zero, List.reduceReplicate, List.getElem?_cons_zero, List.getElem?_cons_succ, List.getElem?_nil, List.set_cons_zero, List.set_cons_succ, Nat.reduceAdd, Nat.reduceSub, Nat.reduceMul, Nat.reduceEqDiff, Nat.reduceLeDiff, Nat.reduceLT, Int.add_zero, Int.zero_add, List.map_reverse, Nat.reduceBEq, Int.reduceAdd, Int.reduceSub, Int.reduceLT, Int.reduceLE, Int.reduceEq, Int.reduceNeg, Int.reduceToNat, Int.reduceMul, Nat.zero_add, Nat.add_zero, if_true, if_false, reduceIte, decide_true, decide_false, decide_eq_true_eq, Bool.not_true, Bool.not_false, Bool.and_true, Bool.true_and, Bool.and_self, Bool.and_false, Bool.false_and, Bool.or_true, Bool.true_or, Bool.or_false, Bool.false_or, Bool.false_eq_true, Bool.true_eq_false, and_self, and_true, true_and, true_or, or_true, Bool.or_self, Bool.not_not, Function.comp_apply, ne_eq, not_true_eq_false, not_false_eq_true, allL_yes, List.filterMap_cons, List.filterMap_nil, l3, hc, e]
  generalize hG : Sl.v (.lst (((rowsN n).filter fun r => decide (rankP r ≤ -2)).map rowD)) = G at *
  have s4 : setv 5 (bin2 (cst (.int 2)) (callI 0 F__law_draw (acons (cst (.int 19)) anil)) addD) ⟨[.io, .v (.int n), .v (.tup ((rowsN n).map rowD)), G, .no, .no, .no, .no, .no], [.int a, .int b]⟩
      = some (.nx ⟨[.io, .v (.int n), .v (.tup ((rowsN n).map rowD)), G, .no, .v (.int (2 + v)), .no, .no, .no], [.int a1, .int b1]⟩) := by
    simp only [runV, runI, entV, entI, endV, endI, seqs, ifs, retv, reto, setv, seto, asg, drop1, retn, getv, geto, cst, bor, ofO, ofV, asL, seqD, bin2, bin2o, tst, chn, andv, orv, notv, ifv, andt, ort, nott, anil, acons, astar, astarB, mkT, mkL, call1, callo, callF, callFo, callKF, perm, rtD, S.setv, S.setO, szOk, subD_e, ltD_e, leD_e, gtD_e, geD_e, modD_e, fdivD_e, powD_e, addD_i, addD_l, addD_t, mulT_i, mulT_l, mulT_t, mulOk, negF, eqD, neD, isN, notN, ixD_t, ixD_l, ixD_f, lenD_t, lenD_l, lenD_f, lenL, tupD_t, tupD_l, tupD_f, tupL, listD_t, listD_l, listD_f, listL, intD_i, intD_b, absD_e, max2D, min2D, sumL, sumD_t, sumD_l, sortedV_t, sortedV_l, sortedV_f, sortedG_ints, isi_int, isi_bl, isi_tup, isi_lst, isi_str, isi_non, kb_ii, kb_ib, kb_is, kb_it, kb_il, kb_bi, kb_bb, kb_bs, kb_bt, kb_bl, kb_ti, kb_tb, kb_ts, kb_tt, kb_tl, kb_li, kb_lb, kb_ls, kb_lt, kb_ll, kb_si, kb_sb, kb_ss, kb_st, kb_sl, kb_ni, kb_nb, kb_ns, kb_nt, kb_nl, nxt, never, brk, ctn, itS, parA, mnil, mcv, mco, setAll, tgN, tgT, tgsC, tgs0, yes, lcStep, wipeS, wipeL, backS, backL, keepS, intsD_map, boolsD_map, sortRo, revF, revD, callN, callI, ownO, putO, ixO, setIx, appE, Option.bind_some, Option.map_some, Option.bind_none, Option.map_none, List.length_cons, List.length_nil, List.length_map, List.map_cons, List.map_nil, List.cons_append, List.nil_append, List.append_nil, List.replicate_succ, List.replicate_zero, List.reduceReplicate, List.getElem?_cons_zero, List.getElem?_cons_succ, List.getElem?_nil, List.set_cons_zero, List.set_cons_succ, Nat.reduceAdd, Nat.reduceSub, Nat.reduceMul, Nat.reduceEqDiff, Nat.reduceLeDiff, Nat.reduceLT, Int.add_zero, Int.zero_add, List.map_reverse, Nat.reduceBEq, Int.reduceAdd, Int.reduceSub, Int.reduceLT, Int.reduceLE, Int.reduceEq, Int.reduceNeg, Int.reduceToNat, Int.reduceMul, Nat.zero_add, Nat.add_zero, if_true, if_false, reduceIte, decide_true, decide_false, decide_eq_true_eq, Bool.not_true, Bool.not_false, Bool.and_true, Bool.true_and, Bool.and_self, Bool.and_false, Bool.false_and, Bool.or_true, Bool.true_or, Bool.or_false, Bool.false_or, Bool.false_eq_true, Bool.true_eq_false, and_self, and_true, true_and, true_or, or_true, Bool.or_self, Bool.not_not, Function.comp_apply, ne_eq, not_true_eq_false, not_false_eq_true, allL_yes, List.filterMap_cons, List.filterMap_nil, putO, d1]
  obtain ⟨by_, hby⟩ : ∃ y, y = 2 + v := ⟨_, rfl⟩
  rw [← hby] at s4
  have eb := e_by_rank n by_ h0 (by omega) (by omega) (by omega)
  obtain ⟨told, htold⟩ : ∃ t, t = sharedP ((rowsN n).map rankP) by_ := ⟨_, rfl⟩
  rw [← htold] at eb
  have z1 : by_.natAbs < 2 ^ 63 := by omega
  have z2 : 1 * by_.toNat ≤ 16777216 := by omega
  have s5 : (parA [6, 7] (mcv (callF F_by_rank (acons (getv 1) (acons (getv 5) anil))) (mco (bin2o (ofO (mkL (acons (cst (.int 0)) anil))) (getv 5) repO) mnil))) ⟨[.io, .v (.int n), .v (.tup ((rowsN n).map rowD)), G, .no, .v (.int by_), .no, .no, .no], [.int a1, .int b1]⟩
      = some (.nx ⟨[.io, .v (.int n), .v (.tup ((rowsN n).map rowD)), G, .no, .v (.int by_), .v (.tup (told.map .int)), .own ((List.replicate by_.toNat (0 : Int)).map .int), .no], [.int a1, .int b1]⟩) := by
    simp only [runV, runI, entV, entI, endV, endI, seqs, ifs, retv, reto, setv, seto, asg, drop1, retn, getv, geto, cst, bor, ofO, ofV, asL, seqD, bin2, bin2o, tst, chn, andv, orv, notv, ifv, andt, ort, nott, anil, acons, astar, astarB, mkT, mkL, call1, callo, callF, callFo, callKF, perm, rtD, S.setv, S.setO, szOk, subD_e, ltD_e, leD_e, gtD_e, geD_e, modD_e, fdivD_e, powD_e, addD_i, addD_l, addD_t, mulT_i, mulT_l, mulT_t, mulOk, negF, eqD, neD, isN, notN, ixD_t, ixD_l, ixD_f, lenD_t, lenD_l, lenD_f, lenL, tupD_t, tupD_l, tupD_f, tupL, listD_t, listD_l, listD_f, listL, intD_i, intD_b, absD_e, max2D, min2D, sumL, sumD_t, sumD_l, sortedV_t, sortedV_l, sortedV_f, sortedG_ints, isi_int, isi_bl, isi_tup, isi_lst, isi_str, isi_non, kb_ii, kb_ib, kb_is, kb_it, kb_il, kb_bi, kb_bb, kb_bs, kb_bt, kb_bl, kb_ti, kb_tb, kb_ts, kb_tt, kb_tl, kb_li, kb_lb, kb_ls, kb_lt, kb_ll, kb_si, kb_sb, kb_ss, kb_st, kb_sl, kb_ni, kb_nb, kb_ns, kb_nt, kb_nl, nxt, never, brk, ctn, itS, parA, mnil, mcv, mco, setAll, tgN, tgT, tgsC, tgs0, yes, lcStep, wipeS, wipeL, backS, backL, keepS, intsD_map, boolsD_map, sortRo, revF, revD, callN, callI, ownO, putO, ixO, setIx, appE, Option.bind_some, Option.map_some, Option.bind_none, Option.map_none, List.length_cons, List.length_nil, List.length_map, List.map_cons, List.map_nil, List.cons_append, List.nil_append, List.append_nil, List.replicate_succ, List.replicate_zero, List.reduceReplicate, List.getElem?_cons_zero, List.getElem?_cons_succ, List.getElem?_nil, List.set_cons_zero, List.set_cons_succ, Nat.reduceAdd, Nat.reduceSub, Nat.reduceMul, Nat.reduceEqDiff, Nat.reduceLeDiff, Nat.reduceLT, Int.add_zero, Int.zero_add, List.map_reverse, Nat.reduceBEq, Int.reduceAdd, Int.reduceSub, Int.reduceLT, Int.reduceLE, Int.reduceEq, Int.reduceNeg, Int.reduceToNat, Int.reduceMul, Nat.zero_add, Nat.add_zero, if_true, if_false, reduceIte, decide_true, decide_false, decide_eq_true_eq, Bool.not_true, Bool.not_false, Bool.and_true, Bool.true_and, Bool.and_self, Bool.and_false, Bool.false_and, Bool.or_true, Bool.true_or, Bool.or_false, Bool.false_or, Bool.false_eq_true, Bool.true_eq_false, and_self, and_true, true_and, true_or, or_true, Bool.or_self, Bool.not_not, Function.comp_apply, ne_eq, not_true_eq_false, not_false_eq_true, allL_yes, List.filterMap_cons, List.filterMap_nil, repO, eb, z1, z2, List.flatten_replicate_singleton, List.map_replicate]
  obtain ⟨s', e6, -, j, j2, e7⟩ := forF_rest (t := tgN 4) (b := dueB) rowD
    (fun _ (acc : List Int) s => acc.length = by_.toNat ∧ ∃ j j2, s = (⟨[.io, .v (.int n), .v (.tup ((rowsN n).map rowD)), G, j, .v (.int by_), .v (.tup (told.map .int)), .own (acc.map .int), j2], [.int a1, .int b1]⟩ : S))
    (fun acc r => shareF by_ acc (rankP r)) (rowsN n) (List.replicate by_.toNat 0) ⟨[.io, .v (.int n), .v (.tup ((rowsN n).map rowD)), G, .no, .v (.int by_), .v (.tup (told.map .int)), .own ((List.replicate by_.toNat (0 : Int)).map .int), .no], [.int a1, .int b1]⟩ (fun r rest acc s hx hs => by
      obtain ⟨hl, j, j2, rfl⟩ := hs
      exact ⟨_, .inl (due_step by_ (by omega) acc r (hr r hx) hl _ _ _ _ j j2 _), by simp only [shareF, List.length_set]; exact hl, _, _, rfl⟩)
    ⟨by simp, _, _, rfl⟩
  subst e7
  rw [← foldl_map', show ((rowsN n).map rankP).foldl (shareF by_) (List.replicate by_.toNat 0) = told from htold.symm] at e6
  have e8 : F__law_alike 40 [.tup (told.map .int), .tup (told.map .int)] = some (.v (.bl true)) := by
    refine e_alike_row 38 told ?_
    have : ∀ (l acc : List Int), (l.foldl (shareF by_) acc).length = acc.length := by
      intro l
      induction l with
      | nil => intro acc; rfl
      | cons x l ih => intro acc; rw [List.foldl_cons, ih]; exact List.length_set
    rw [htold, sharedP, this, List.length_replicate]
    omega
  have e9 : told.drop 1 = (told.drop 1).reverse := by
    have h := sym_all n.toNat (by omega)
    have h2 := List.all_eq_true.mp h v.toNat (List.mem_range.mpr (by omega))
    have e : ((v.toNat + 2 : Nat) : Int) = by_ := by omega
    have h3 := of_decide_eq_true h2
    rw [e, ← en, ← htold] at h3
    exact h3
  have e10 := eqB_row (told.drop 1) (told.drop 1).reverse
  rw [decide_eq_true e9, List.map_reverse] at e10
  refine ⟨a1, b1, runI_e ⟨[.io, .v (.int n), .no, .no, .no, .no, .no, .no, .no], [.int a, .int b]⟩ rfl rfl (o := some (.rt (.bl true) ⟨[.io, .v (.int n), .v (.tup ((rowsN n).map rowD)), G, j, .v (.int by_), .v (.tup (told.map .int)), .own (told.map .int), j2], [.int a1, .int b1]⟩)) ?_ rfl⟩
  unfold dueB at e6
  unfold g__law_number_right
  rw [seqs_nx s1, seqs_nx s2, seqs_nx s3, seqs_nx s4, seqs_nx s5, seqs_nx (fors_e (by simp only [runV, runI, entV, entI, endV, endI, seqs, ifs, retv, reto, setv, seto, asg, drop1, retn, getv, geto, cst, bor, ofO, ofV, asL, seqD, bin2, bin2o, tst, chn, andv, orv, notv, ifv, andt, ort, nott, anil, acons, astar, astarB, mkT, mkL, call1, callo, callF, callFo, callKF, perm, rtD, S.setv, S.setO, szOk, subD_e, ltD_e, leD_e, gtD_e, geD_e, modD_e, fdivD_e, powD_e, addD_i, addD_l, addD_t, mulT_i, mulT_l, mulT_t, mulOk, negF, eqD, neD, isN, notN, ixD_t, ixD_l, ixD_f, lenD_t, lenD_l, lenD_f, lenL, tupD_t, tupD_l, tupD_f, tupL, listD_t, listD_l, listD_f, listL, intD_i, intD_b, absD_e, max2D, min2D, sumL, sumD_t, sumD_l, sortedV_t, sortedV_l, sortedV_f, sortedG_ints, isi_int, isi_bl, isi_tup, isi_lst, isi_str, isi_non, kb_ii, kb_ib, kb_is, kb_it, kb_il, kb_bi, kb_bb, kb_bs, kb_bt, kb_bl, kb_ti, kb_tb, kb_ts, kb_tt, kb_tl, kb_li, kb_lb, kb_ls, kb_lt, kb_ll, kb_si, kb_sb, kb_ss, kb_st, kb_sl, kb_ni, kb_nb, kb_ns, kb_nt, kb_nl, nxt, never, brk, ctn, itS, parA, mnil, mcv, mco, setAll, tgN, tgT, tgsC, tgs0, yes, lcStep, wipeS, wipeL, backS, backL, keepS, intsD_map, boolsD_map, sortRo, revF, revD, callN, callI, ownO, putO, ixO, setIx, appE, Option.bind_some, Option.map_some, Option.bind_none, Option.map_none, List.length_cons, List.length_nil, List.length_map, List.map_cons, List.map_nil, List.cons_append, List.nil_append, List.append_nil, List.replicate_succ, List.replicate_zero, List.reduceReplicate, List.getElem?_cons_zero, List.getElem?_cons_succ, List.getElem?_nil, List.set_cons_zero, List.set_cons_succ, Nat.reduceAdd, Nat.reduceSub, Nat.reduceMul, Nat.reduceEqDiff, Nat.reduceLeDiff, Nat.reduceLT, Int.add_zero, Int.zero_add, List.map_reverse, Nat.reduceBEq, Int.reduceAdd, Int.reduceSub, Int.reduceLT, Int.reduceLE, Int.reduceEq, Int.reduceNeg, Int.reduceToNat, Int.reduceMul, Nat.zero_add, Nat.add_zero, if_true, if_false, reduceIte, decide_true, decide_false, decide_eq_true_eq, Bool.not_true, Bool.not_false, Bool.and_true, Bool.true_and, Bool.and_self, Bool.and_false, Bool.false_and, Bool.or_true, Bool.true_or, Bool.or_false, Bool.false_or, Bool.false_eq_true, Bool.true_eq_false, and_self, and_true, true_and, true_or, or_true, Bool.or_self, Bool.not_not, Function.comp_apply, ne_eq, not_true_eq_false, not_false_eq_true, allL_yes, List.filterMap_cons, List.filterMap_nil]) e6)]
  simp only [runV, runI, entV, entI, endV, endI, seqs, ifs, retv, reto, setv, seto, asg, drop1, retn, getv, geto, cst, bor, ofO, ofV, asL, seqD, bin2, bin2o, tst, chn, andv, orv, notv, ifv, andt, ort, nott, anil, acons, astar, astarB, mkT, mkL, call1, callo, callF, callFo, callKF, perm, rtD, S.setv, S.setO, szOk, subD_e, ltD_e, leD_e, gtD_e, geD_e, modD_e, fdivD_e, powD_e, addD_i, addD_l, addD_t, mulT_i, mulT_l, mulT_t, mulOk, negF, eqD, neD, isN, notN, ixD_t, ixD_l, ixD_f, lenD_t, lenD_l, lenD_f, lenL, tupD_t, tupD_l, tupD_f, tupL, listD_t, listD_l, listD_f, listL, intD_i, intD_b, absD_e, max2D, min2D, sumL, sumD_t, sumD_l, sortedV_t, sortedV_l, sortedV_f, sortedG_ints, isi_int, isi_bl, isi_tup, isi_lst, isi_str, isi_non, kb_ii, kb_ib, kb_is, kb_it, kb_il, kb_bi, kb_bb, kb_bs, kb_bt, kb_bl, kb_ti, kb_tb, kb_ts, kb_tt, kb_tl, kb_li, kb_lb, kb_ls, kb_lt, kb_ll, kb_si, kb_sb, kb_ss, kb_st, kb_sl, kb_ni, kb_nb, kb_ns, kb_nt, kb_nl, nxt, never, brk, ctn, itS, parA, mnil, mcv, mco, setAll, tgN, tgT, tgsC, tgs0, yes, lcStep, wipeS, wipeL, backS, backL, keepS, intsD_map, boolsD_map, sortRo, revF, revD, callN, callI, ownO, putO, ixO, setIx, appE, Option.bind_some, Option.map_some, Option.bind_none, Option.map_none, List.length_cons, List.length_nil, List.length_map, List.map_cons, List.map_nil, List.cons_append, List.nil_append, List.append_nil, List.replicate_succ, List.replicate_zero, List.reduceReplicate, List.getElem?_cons_zero, List.getElem?_cons_succ, List.getElem?_nil, List.set_cons_zero, List.set_cons_succ, Nat.reduceAdd, Nat.reduceSub, Nat.reduceMul, Nat.reduceEqDiff, Nat.reduceLeDiff, Nat.reduceLT, Int.add_zero, Int.zero_add, List.map_reverse, Nat.reduceBEq, Int.reduceAdd, Int.reduceSub, Int.reduceLT, Int.reduceLE, Int.reduceEq, Int.reduceNeg, Int.reduceToNat, Int.reduceMul, Nat.zero_add, Nat.add_zero, if_true, if_false, reduceIte, decide_true, decide_false, decide_eq_true_eq, Bool.not_true, Bool.not_false, Bool.and_true, Bool.true_and, Bool.and_self, Bool.and_false, Bool.false_and, Bool.or_true, Bool.true_or, Bool.or_false, Bool.false_or, Bool.false_eq_true, Bool.true_eq_false, and_self, and_true, true_and, true_or, or_true, Bool.or_self, Bool.not_not, Function.comp_apply, ne_eq, not_true_eq_false, not_false_eq_true, allL_yes, List.filterMap_cons, List.filterMap_nil, slLo, slD, cut_one, List.filterMap_cons, List.filterMap_nil, eb, e8, e10]
end K65
namespace K65
open PySem L2 DL DLT PyProof.Rows
theorem ones_ok (k : Nat) (h : k ≤ 600) : Ok (List.replicate k 1) := ⟨⟨List.pairwise_replicate.mpr (.inr (Int.le_refl _)), fun x hx => by have := List.eq_of_mem_replicate hx; omega⟩, by rw [sum_rep]; omega⟩
theorem e_right (a b : Int) : ∃ m', F__law_right [.int a, .int b] [] = some (.v (.bl true), m') := by
  obtain ⟨v1, a1, b1, d1, p1, q1⟩ := e_draw a b 40 (by omega) (by omega)
  obtain ⟨r1, a2, b2, d2, o1⟩ := e_row a1 b1 v1 p1 (by omega)
  obtain ⟨v2, a3, b3, d3, p2, q2⟩ := e_draw a2 b2 201 (by omega) (by omega)
  obtain ⟨r2, a4, b4, d4, o2⟩ := e_row a3 b3 v2 p2 (by omega)
  obtain ⟨v3, a5, b5, d5, p3, q3⟩ := e_draw a4 b4 401 (by omega) (by omega)
  obtain ⟨r3, a6, b6, d6, o3⟩ := e_row a5 b5 (200 + v3) (by omega) (by omega)
  obtain ⟨v4, a7, b7, d7, p4, q4⟩ := e_draw a6 b6 90 (by omega) (by omega)
  obtain ⟨v5, a8, b8, d8, p5, q5⟩ := e_draw a7 b7 19 (by omega) (by omega)
  obtain ⟨a9, b9, d9⟩ := e_number_right a8 b8 v5 p5 (by omega)
  obtain ⟨v6, a10, b10, d10, p6, q6⟩ := e_draw a9 b9 12 (by omega) (by omega)
  obtain ⟨a11, b11, d11⟩ := e_number_right a10 b10 v6 p6 (by omega)
  have z1 : -1000000 ≤ v4 := by omega
  have z2 : v4 ≤ 1000 := by omega
  obtain ⟨rows, hrows⟩ : ∃ rs : List (List Int), rs = [r1, r2, r3, List.replicate v4.toNat 1, []] := ⟨_, rfl⟩
  have hok : ∀ r ∈ rows, Ok r := by
    rw [hrows]
    intro r hr
    simp only [List.mem_cons, List.not_mem_nil, or_false] at hr
    rcases hr with e | e | e | e | e
    · rw [e]; exact o1
    · rw [e]; exact o2
    · rw [e]; exact o3
    · rw [e]; exact ones_ok _ (by omega)
    · rw [e]; exact ones_ok 0 (by omega)
  have s1 : (setv 1 (mkT (acons (callI 0 F__law_row (acons (callI 0 F__law_draw (acons (cst (.int 40)) anil)) anil)) (acons (callI 0 F__law_row (acons (callI 0 F__law_draw (acons (cst (.int 201)) anil)) anil)) (acons (callI 0 F__law_row (acons (bin2 (cst (.int 200)) (callI 0 F__law_draw (acons (cst (.int 401)) anil)) addD) anil)) (acons (bin2 (mkT (acons (cst (.int 1)) anil)) (callI 0 F__law_draw (acons (cst (.int 90)) anil)) mulT) (acons (mkT anil) anil)))))))
      ⟨[.io, .no, .no], [.int a, .int b]⟩ = some (.nx ⟨[.io, .v (.tup (rows.map rowD)), .no], [.int a7, .int b7]⟩) := by
    rw [hrows]
    simp only [runV, runI, entV, entI, endV, endI, seqs, ifs, retv, reto, setv, seto, asg, drop1, retn, getv, geto, cst, bor, ofO, ofV, asL, seqD, bin2, bin2o, tst, chn, andv, orv, notv, ifv, andt, ort, nott, anil, acons, astar, astarB, mkT, mkL, call1, callo, callF, callFo, callKF, perm, rtD, S.setv, S.setO, szOk, subD_e, ltD_e, leD_e, gtD_e, geD_e, modD_e, fdivD_e, powD_e, addD_i, addD_l, addD_t, mulT_i, mulT_l, mulT_t, mulOk, negF, eqD, neD, isN, notN, ixD_t, ixD_l, ixD_f, lenD_t, lenD_l, lenD_f, lenL, tupD_t, tupD_l, tupD_f, tupL, listD_t, listD_l, listD_f, listL, intD_i, intD_b, absD_e, max2D, min2D, sumL, sumD_t, sumD_l, sortedV_t, sortedV_l, sortedV_f, sortedG_ints, isi_int, isi_bl, isi_tup, isi_lst, isi_str, isi_non, kb_ii, kb_ib, kb_is, kb_it, kb_il, kb_bi, kb_bb, kb_bs, kb_bt, kb_bl, kb_ti, kb_tb, kb_ts, kb_tt, kb_tl, kb_li, kb_lb, kb_ls, kb_lt, kb_ll, kb_si, kb_sb, kb_ss, kb_st, kb_sl, kb_ni, kb_nb, kb_ns, kb_nt, kb_nl, nxt, never, brk, ctn, itS, parA, mnil, mcv, mco, setAll, tgN, tgT, tgsC, tgs0, yes, lcStep, wipeS, wipeL, backS, backL, keepS, intsD_map, boolsD_map, sortRo, revF, revD, callN, callI, ownO, putO, ixO, setIx, appE, Option.bind_some, Option.map_some, Option.bind_none, Option.map_none, List.length_cons, List.length_nil, List.length_map, List.map_cons, List.map_nil, List.cons_append, List.nil_append, List.append_nil, List.replicate_succ, List.replicate_zero, List.reduceReplicate, List.getElem?_cons_zero, List.getElem?_cons_succ, List.getElem?_nil, List.set_cons_zero, List.set_cons_succ, Nat.reduceAdd, Nat.reduceSub, Nat.reduceMul, Nat.reduceEqDiff, Nat.reduceLeDiff, Nat.reduceLT, Int.add_zero, Int.zero_add, List.map_reverse, Nat.reduceBEq, Int.reduceAdd, Int.reduceSub, Int.reduceLT, Int.reduceLE, Int.reduceEq, Int.reduceNeg, Int.reduceToNat, Int.reduceMul, Nat.zero_add, Nat.add_zero, if_true, if_false, reduceIte, decide_true, decide_false, decide_eq_true_eq, Bool.not_true, Bool.not_false, Bool.and_true, Bool.true_and, Bool.and_self, Bool.and_false, Bool.false_and, Bool.or_true, Bool.true_or, Bool.or_false, Bool.false_or, Bool.false_eq_true, Bool.true_eq_false, and_self, and_true, true_and, true_or, or_true, Bool.or_self, Bool.not_not, Function.comp_apply, ne_eq, not_true_eq_false, not_false_eq_true, allL_yes, List.filterMap_cons, List.filterMap_nil, putO, rowD, d1, d2, d3, d4, d5, d6, d7, z1, z2, List.flatten_replicate_singleton, List.map_replicate]
  have l2 : lcS [2] (itS (getv 1)) (tgN 2) (nott (tst (callF F__law_row_right (acons (getv 2) anil)))) (cst (.int 1)) ⟨[.io, .v (.tup (rows.map rowD)), .no], [.int a7, .int b7]⟩ = some ([], ⟨[.io, .v (.tup (rows.map rowD)), .no], [.int a7, .int b7]⟩) := by
    have := lcS_fm (vs := [2]) (fi := itS (getv 1)) (t := tgN 2) (u := nott (tst (callF F__law_row_right (acons (getv 2) anil)))) (el := cst (.int 1)) (s := ⟨[.io, .v (.tup (rows.map rowD)), .no], [.int a7, .int b7]⟩) (s1 := ⟨[.io, .v (.tup (rows.map rowD)), .no], [.int a7, .int b7]⟩)
      rowD (fun _ => none) rows (by simp only [runV, runI, entV, entI, endV, endI, seqs, ifs, retv, reto, setv, seto, asg, drop1, retn, getv, geto, cst, bor, ofO, ofV, asL, seqD, bin2, bin2o, tst, chn, andv, orv, notv, ifv, andt, ort, nott, anil, acons, astar, astarB, mkT, mkL, call1, callo, callF, callFo, callKF, perm, rtD, S.setv, S.setO, szOk, subD_e, ltD_e, leD_e, gtD_e, geD_e, modD_e, fdivD_e, powD_e, addD_i, addD_l, addD_t, mulT_i, mulT_l, mulT_t, mulOk, negF, eqD, neD, isN, notN, ixD_t, ixD_l, ixD_f, lenD_t, lenD_l, lenD_f, lenL, tupD_t, tupD_l, tupD_f, tupL, listD_t, listD_l, listD_f, listL, intD_i, intD_b, absD_e, max2D, min2D, sumL, sumD_t, sumD_l, sortedV_t, sortedV_l, sortedV_f, sortedG_ints, isi_int, isi_bl, isi_tup, isi_lst, isi_str, isi_non, kb_ii, kb_ib, kb_is, kb_it, kb_il, kb_bi, kb_bb, kb_bs, kb_bt, kb_bl, kb_ti, kb_tb, kb_ts, kb_tt, kb_tl, kb_li, kb_lb, kb_ls, kb_lt, kb_ll, kb_si, kb_sb, kb_ss, kb_st, kb_sl, kb_ni, kb_nb, kb_ns, kb_nt, kb_nl, nxt, never, brk, ctn, itS, parA, mnil, mcv, mco, setAll, tgN, tgT, tgsC, tgs0, yes, lcStep, wipeS, wipeL, backS, backL, keepS, intsD_map, boolsD_map, sortRo, revF, revD, callN, callI, ownO, putO, ixO, setIx, appE, Option.bind_some, Option.map_some, Option.bind_none, Option.map_none, List.length_cons, List.length_nil, List.length_map, List.map_cons, List.map_nil, List.cons_append, List.nil_append, List.append_nil, List.replicate_succ, List.replicate_zero, List.reduceReplicate, List.getElem?_cons_zero, List.getElem?_cons_succ, List.getElem?_nil, List.set_cons_zero, List.set_cons_succ, Nat.reduceAdd, Nat.reduceSub, Nat.reduceMul, Nat.reduceEqDiff, Nat.reduceLeDiff, Nat.reduceLT, Int.add_zero, Int.zero_add, List.map_reverse, Nat.reduceBEq, Int.reduceAdd, Int.reduceSub, Int.reduceLT, Int.reduceLE, Int.reduceEq, Int.reduceNeg, Int.reduceToNat, Int.reduceMul, Nat.zero_add, Nat.add_zero, if_true, if_false, reduceIte, decide_true, decide_false, decide_eq_true_eq, Bool.not_true, Bool.not_false, Bool.and_true, Bool.true_and, Bool.and_self, Bool.and_false, Bool.false_and, Bool.or_true, Bool.true_or, Bool.or_false, Bool.false_or, Bool.false_eq_true, Bool.true_eq_false, and_self, and_true, true_and, true_or, or_true, Bool.or_self, Bool.not_not, Function.comp_apply, ne_eq, not_true_eq_false, not_false_eq_true, allL_yes, List.filterMap_cons, List.filterMap_nil]) (by rw [hrows]; simp) (fun r hr => by
        have e := e_row_right r (hok r hr)
        simp only [runV, runI, entV, entI, endV, endI, seqs, ifs, retv, reto, setv, seto, asg, drop1, retn, getv, geto, cst, bor, ofO, ofV, asL, seqD, bin2, bin2o, tst, chn, andv, orv, notv, ifv, andt, ort, nott, anil, acons, astar, astarB, mkT, mkL, call1, callo, callF, callFo, callKF, perm, rtD, S.setv, S.setO, szOk, subD_e, ltD_e, leD_e, gtD_e, geD_e, modD_e, fdivD_e, powD_e, addD_i, addD_l, addD_t, mulT_i, mulT_l, mulT_t, mulOk, negF, eqD, neD, isN, notN, ixD_t, ixD_l, ixD_f, lenD_t, lenD_l, lenD_f, lenL, tupD_t, tupD_l, tupD_f, tupL, listD_t, listD_l, listD_f, listL, intD_i, intD_b, absD_e, max2D, min2D, sumL, sumD_t, sumD_l, sortedV_t, sortedV_l, sortedV_f, sortedG_ints, isi_int, isi_bl, isi_tup, isi_lst, isi_str, isi_non, kb_ii, kb_ib, kb_is, kb_it, kb_il, kb_bi, kb_bb, kb_bs, kb_bt, kb_bl, kb_ti, kb_tb, kb_ts, kb_tt, kb_tl, kb_li, kb_lb, kb_ls, kb_lt, kb_ll, kb_si, kb_sb, kb_ss, kb_st, kb_sl, kb_ni, kb_nb, kb_ns, kb_nt, kb_nl, nxt, never, brk, ctn, itS, parA, mnil, mcv, mco, setAll, tgN, tgT, tgsC, tgs0, yes, lcStep, wipeS, wipeL, backS, backL, keepS, intsD_map, boolsD_map, sortRo, revF, revD, callN, callI, ownO, putO, ixO, setIx, appE, Option.bind_some, Option.map_some, Option.bind_none, Option.map_none, List.length_cons, List.length_nil, List.length_map, List.map_cons, List.map_nil, List.cons_append, List.nil_append, List.append_nil, List.replicate_succ, List.replicate_zero, List.reduceReplicate, List.getElem?_cons_zero, List.getElem?_cons_succ, List.getElem?_nil, List.set_cons_zero, List.set_cons_succ, Nat.reduceAdd, Nat.reduceSub, Nat.reduceMul, Nat.reduceEqDiff, Nat.reduceLeDiff, Nat.reduceLT, Int.add_zero, Int.zero_add, List.map_reverse, Nat.reduceBEq, Int.reduceAdd, Int.reduceSub, Int.reduceLT, Int.reduceLE, Int.reduceEq, Int.reduceNeg, Int.reduceToNat, Int.reduceMul, Nat.zero_add, Nat.add_zero, if_true, if_false, reduceIte, decide_true, decide_false, decide_eq_true_eq, Bool.not_true, Bool.not_false, Bool.and_true, Bool.true_and, Bool.and_self, Bool.and_false, Bool.false_and, Bool.or_true, Bool.true_or, Bool.or_false, Bool.false_or, Bool.false_eq_true, Bool.true_eq_false, and_self, and_true, true_and, true_or, or_true, Bool.or_self, Bool.not_not, Function.comp_apply, ne_eq, not_true_eq_false, not_false_eq_true, allL_yes, List.filterMap_cons, List.filterMap_nil, rowD, e])
    rw [this]
    simp only [runV, runI, entV, entI, endV, endI, seqs, ifs, retv, reto, setv, seto, asg, drop1, retn, getv, geto, cst, bor, ofO, ofV, asL, seqD, bin2, bin2o, tst, chn, andv, orv, notv, ifv, andt, ort, nott, anil, acons, astar, astarB, mkT, mkL, call1, callo, callF, callFo, callKF, perm, rtD, S.setv, S.setO, szOk, subD_e, ltD_e, leD_e, gtD_e, geD_e, modD_e, fdivD_e, powD_e, addD_i, addD_l, addD_t, mulT_i, mulT_l, mulT_t, mulOk, negF, eqD, neD, isN, notN, ixD_t, ixD_l, ixD_f, lenD_t, lenD_l, lenD_f, lenL, tupD_t, tupD_l, tupD_f, tupL, listD_t, listD_l, listD_f, listL, intD_i, intD_b, absD_e, max2D, min2D, sumL, sumD_t, sumD_l, sortedV_t, sortedV_l, sortedV_f, sortedG_ints, isi_int, isi_bl, isi_tup, isi_lst, isi_str, isi_non, kb_ii, kb_ib, kb_is, kb_it, kb_il, kb_bi, kb_bb, kb_bs, kb_bt, kb_bl, kb_ti, kb_tb, kb_ts, kb_tt, kb_tl, kb_li, kb_lb, kb_ls, kb_lt, kb_ll, kb_si, kb_sb, kb_ss, kb_st, kb_sl, kb_ni, kb_nb, kb_ns, kb_nt, kb_nl, nxt, never, brk, ctn, itS, parA, mnil, mcv, mco, setAll, tgN, tgT, tgsC, tgs0, yes, lcStep, wipeS, wipeL, backS, backL, keepS, intsD_map, boolsD_map, sortRo, revF, revD, callN, callI, ownO, putO, ixO, setIx, appE, Option.bind_some, Option.map_some, Option.bind_none, Option.map_none, List.length_cons, List.length_nil, List.length_map, List.map_cons, List.map_nil, List.cons_append, List.nil_append, List.append_nil, List.replicate_succ, List.replicate_zero, List.reduceReplicate, List.getElem?_cons_zero, List.getElem?_cons_succ, List.getElem?_nil, List.set_cons_zero, List.set_cons_succ, Nat.reduceAdd, Nat.reduceSub, Nat.reduceMul, Nat.reduceEqDiff, Nat.reduceLeDiff, Nat.reduceLT, Int.add_zero, Int.zero_add, List.map_reverse, Nat.reduceBEq, Int.reduceAdd, Int.reduceSub, Int.reduceLT, Int.reduceLE, Int.reduceEq, Int.reduceNeg, Int.reduceToNat, Int.reduceMul, Nat.zero_add, Nat.add_zero, if_true, if_false, reduceIte, decide_true, decide_false, decide_eq_true_eq, Bool.not_true, Bool.not_false, Bool.and_true, Bool.true_and, Bool.and_self, Bool.and_false, Bool.false_and, Bool.or_true, Bool.true_or, Bool.or_false, Bool.false_or, Bool.false_eq_true, Bool.true_eq_false, and_self, and_true, true_and, true_or, or_true, Bool.or_self, Bool.not_not, Function.comp_apply, ne_eq, not_true_eq_false, not_false_eq_true, allL_yes, List.filterMap_cons, List.filterMap_nil, fm_none]
  have e2 := eqB_lst [] []
  rw [List.map_nil, decide_eq_true rfl] at e2
  refine ⟨[.int a11, .int b11], runI_e ⟨[.io, .no, .no], [.int a, .int b]⟩ rfl rfl (o := some (.rt (.bl true) ⟨[.io, .v (.tup (rows.map rowD)), .no], [.int a11, .int b11]⟩)) ?_ rfl⟩
  unfold g__law_right
  rw [seqs_nx s1, seqs_nx (s' := ⟨[.io, .v (.tup (rows.map rowD)), .no], [.int a7, .int b7]⟩) (by simp only [runV, runI, entV, entI, endV, endI, seqs, ifs, retv, reto, setv, seto, asg, drop1, retn, getv, geto, cst, bor, ofO, ofV, asL, seqD, bin2, bin2o, tst, chn, andv, orv, notv, ifv, andt, ort, nott, anil, acons, astar, astarB, mkT, mkL, call1, callo, callF, callFo, callKF, perm, rtD, S.setv, S.setO, szOk, subD_e, ltD_e, leD_e, gtD_e, geD_e, modD_e, fdivD_e, powD_e, addD_i, addD_l, addD_t, mulT_i, mulT_l, mulT_t, mulOk, negF, eqD, neD, isN, notN, ixD_t, ixD_l, ixD_f, lenD_t, lenD_l, lenD_f, lenL, tupD_t, tupD_l, tupD_f, tupL, listD_t, listD_l, listD_f, listL, intD_i, intD_b, absD_e, max2D, min2D, sumL, sumD_t, sumD_l, sortedV_t, sortedV_l, sortedV_f, sortedG_ints, isi_int, isi_bl, isi_tup, isi_lst, isi_str, isi_non, kb_ii, kb_ib, kb_is, kb_it, kb_il, kb_bi, kb_bb, kb_bs, kb_bt, kb_bl, kb_ti, kb_tb, kb_ts, kb_tt, kb_tl, kb_li, kb_lb, kb_ls, kb_lt, kb_ll, kb_si, kb_sb, kb_ss, kb_st, kb_sl, kb_ni, kb_nb, kb_ns, kb_nt, kb_nl, nxt, never, brk, ctn, itS, parA, mnil, mcv, mco, setAll, tgN, tgT, tgsC, tgs0, yes, lcStep, wipeS, wipeL, backS, backL, keepS, intsD_map, boolsD_map, sortRo, revF, revD, callN, callI, ownO, putO, ixO, setIx, appE, Option.bind_some, Option.map_some, Option.bind_none, Option.map_none, List.length_cons, List.length_nil, List.length_map, List.map_cons, List.map_nil, List.cons_append, List.nil_append, List.append_nil, List.replicate_succ, List.replicate_zero, List.reduceReplicate, List.getElem?_cons_zero, List.getElem?_cons_succ, List.getElem?_nil, List.set_cons_zero, List.set_cons_succ, Nat.reduceAdd, Nat.reduceSub, Nat.reduceMul, Nat.reduceEqDiff, Nat.reduceLeDiff, Nat.reduceLT, Int.add_zero, Int.zero_add, List.map_reverse, Nat.reduceBEq, Int.reduceAdd, Int.reduceSub, Int.reduceLT, Int.reduceLE, Int.reduceEq, Int.reduceNeg, Int.reduceToNat, Int.reduceMul, Nat.zero_add, Nat.add_zero, if_true, if_false, reduceIte, decide_true, decide_false, decide_eq_true_eq, Bool.not_true, Bool.not_false, Bool.and_true, Bool.true_and, Bool.and_self, Bool.and_false, Bool.false_and, Bool.or_true, Bool.true_or, Bool.or_false, Bool.false_or, Bool.false_eq_true, Bool.true_eq_false, and_self, and_true, true_and, true_or, or_true, Bool.or_self, Bool.not_not, Function.comp_apply, ne_eq, not_true_eq_false, not_false_eq_true, allL_yes, List.filterMap_cons, List.filterMap_nil, l2, e2])]
  simp only [runV, runI, entV, entI, endV, endI, seqs, ifs, retv, reto, setv, seto, asg, drop1, retn, getv, geto, cst, bor, ofO, ofV, asL, seqD, bin2, bin2o, tst, chn, andv, orv, notv, ifv, andt, ort, nott, anil, acons, astar, astarB, mkT, mkL, call1, callo, callF, callFo, callKF, perm, rtD, S.setv, S.setO, szOk, subD_e, ltD_e, leD_e, gtD_e, geD_e, modD_e, fdivD_e, powD_e, addD_i, addD_l, addD_t, mulT_i, mulT_l, mulT_t, mulOk, negF, eqD, neD, isN, notN, ixD_t, ixD_l, ixD_f, lenD_t, lenD_l, lenD_f, lenL, tupD_t, tupD_l, tupD_f, tupL, listD_t, listD_l, listD_f, listL, intD_i, intD_b, absD_e, max2D, min2D, sumL, sumD_t, sumD_l, sortedV_t, sortedV_l, sortedV_f, sortedG_ints, isi_int, isi_bl, isi_tup, isi_lst, isi_str, isi_non, kb_ii, kb_ib, kb_is, kb_it, kb_il, kb_bi, kb_bb, kb_bs, kb_bt, kb_bl, kb_ti, kb_tb, kb_ts, kb_tt, kb_tl, kb_li, kb_lb, kb_ls, kb_lt, kb_ll, kb_si, kb_sb, kb_ss, kb_st, kb_sl, kb_ni, kb_nb, kb_ns, kb_nt, kb_nl, nxt, never, brk, ctn, itS, parA, mnil, mcv, mco, setAll, tgN, tgT, tgsC, tgs0, yes, lcStep, wipeS, wipeL, backS, backL, keepS, intsD_map, boolsD_map, sortRo, revF, revD, callN, callI, ownO, putO, ixO, setIx, appE, Option.bind_some, Option.map_some, Option.bind_none, Option.map_none, List.length_cons, List.length_nil, List.length_map, List.map_cons, List.map_nil, List.cons_append, List.nil_append, List.append_nil, List.replicate_succ, List.replicate_zero, List.reduceReplicate, List.getElem?_cons_zero, List.getElem?_cons_succ, List.getElem?_nil, List.set_cons_zero, List.set_cons_succ, Nat.reduceAdd, Nat.reduceSub, Nat.reduceMul, Nat.reduceEqDiff, Nat.reduceLeDiff, Nat.reduceLT, Int.add_zero, Int.zero_add, List.map_reverse, Nat.reduceBEq, Int.reduceAdd, Int.reduceSub, Int.reduceLT, Int.reduceLE, Int.reduceEq, Int.reduceNeg, Int.reduceToNat, Int.reduceMul, Nat.zero_add, Nat.add_zero, if_true, if_false, reduceIte, decide_true, decide_false, decide_eq_true_eq, Bool.not_true, Bool.not_false, Bool.and_true, Bool.true_and, Bool.and_self, Bool.and_false, Bool.false_and, Bool.or_true, Bool.true_or, Bool.or_false, Bool.false_or, Bool.false_eq_true, Bool.true_eq_false, and_self, and_true, true_and, true_or, or_true, Bool.or_self, Bool.not_not, Function.comp_apply, ne_eq, not_true_eq_false, not_false_eq_true, allL_yes, List.filterMap_cons, List.filterMap_nil, putO, d8, d9, d10, d11]
def lawB : S → Option Fl := (ifs (nott (tst (callN F__law_right (callFo F__law_bag (acons (getv 0) (acons (getv 1) anil))) anil))) (retv (cst (.bl false))) nxt)
theorem fin_at : retv (bin2 (mkT (acons (callF F_is_garden (acons (mkT (acons (cst (.int 2)) (acons (cst (.int 2)) (acons (cst (.int 2)) (acons (cst (.int 2)) anil))))) anil)) (acons (callF F_dealt_from (acons (mkT (acons (cst (.int 2)) (acons (cst (.int 2)) (acons (cst (.int 2)) (acons (cst (.int 2)) anil))))) anil)) (acons (callF F_is_garden (acons (mkT anil) anil)) (acons (callF F_dealt (acons (mkT (acons (cst (.int 4)) (acons (cst (.int 4)) (acons (cst (.int 1)) anil)))) anil)) (acons (callF F_by_rank (acons (cst (.int 9)) (acons (cst (.int 5)) anil))) anil)))))) (mkT (acons (cst (.bl true)) (acons (mkT anil) (acons (cst (.bl false)) (acons (mkT (acons (cst (.int 3)) (acons (cst (.int 3)) (acons (cst (.int 3)) anil)))) (acons (mkT (acons (cst (.int 6)) (acons (cst (.int 6)) (acons (cst (.int 6)) (acons (cst (.int 6)) (acons (cst (.int 6)) anil)))))) anil)))))) eqD) = fun s => some (.rt (.bl true) s) := by
  have f1 : F_is_garden [.tup [.int 2, .int 2, .int 2, .int 2]] = some (.v (.bl true)) := beqR_eq (by decide +kernel)
  have f2 : F_dealt_from [.tup [.int 2, .int 2, .int 2, .int 2]] = some (.v (.tup [])) := beqR_eq (by decide +kernel)
  have f3 : F_is_garden [.tup []] = some (.v (.bl false)) := beqR_eq (by decide +kernel)
  have f4 : F_dealt [.tup [.int 4, .int 4, .int 1]] = some (.v (.tup [.int 3, .int 3, .int 3])) := beqR_eq (by decide +kernel)
  have f5 : F_by_rank [.int 9, .int 5] = some (.v (.tup [.int 6, .int 6, .int 6, .int 6, .int 6])) := beqR_eq (by decide +kernel)
  have f6 : eqB (.tup [.bl true, .tup [], .bl false, .tup [.int 3, .int 3, .int 3], .tup [.int 6, .int 6, .int 6, .int 6, .int 6]]) (.tup [.bl true, .tup [], .bl false, .tup [.int 3, .int 3, .int 3], .tup [.int 6, .int 6, .int 6, .int 6, .int 6]]) = some true := by decide +kernel
  funext s
  simp only [runV, runI, entV, entI, endV, endI, seqs, ifs, retv, reto, setv, seto, asg, drop1, retn, getv, geto, cst, bor, ofO, ofV, asL, seqD, bin2, bin2o, tst, chn, andv, orv, notv, ifv, andt, ort, nott, anil, acons, astar, astarB, mkT, mkL, call1, callo, callF, callFo, callKF, perm, rtD, S.setv, S.setO, szOk, subD_e, ltD_e, leD_e, gtD_e, geD_e, modD_e, fdivD_e, powD_e, addD_i, addD_l, addD_t, mulT_i, mulT_l, mulT_t, mulOk, negF, eqD, neD, isN, notN, ixD_t, ixD_l, ixD_f, lenD_t, lenD_l, lenD_f, lenL, tupD_t, tupD_l, tupD_f, tupL, listD_t, listD_l, listD_f, listL, intD_i, intD_b, absD_e, max2D, min2D, sumL, sumD_t, sumD_l, sortedV_t, sortedV_l, sortedV_f, sortedG_ints, isi_int, isi_bl, isi_tup, isi_lst, isi_str, isi_non, kb_ii, kb_ib, kb_is, kb_it, kb_il, kb_bi, kb_bb, kb_bs, kb_bt, kb_bl, kb_ti, kb_tb, kb_ts, kb_tt, kb_tl, kb_li, kb_lb, kb_ls, kb_lt, kb_ll, kb_si, kb_sb, kb_ss, kb_st, kb_sl, kb_ni, kb_nb, kb_ns, kb_nt, kb_nl, nxt, never, brk, ctn, itS, parA, mnil, mcv, mco, setAll, tgN, tgT, tgsC, tgs0, yes, lcStep, wipeS, wipeL, backS, backL, keepS, intsD_map, boolsD_map, sortRo, revF, revD, callN, callI, ownO, putO, ixO, setIx, appE, Option.bind_some, Option.map_some, Option.bind_none, Option.map_none, List.length_cons, List.length_nil, List.length_map, List.map_cons, List.map_nil, List.cons_append, List.nil_append, List.append_nil, List.replicate_succ, List.replicate_zero, List.reduceReplicate, List.getElem?_cons_zero, List.getElem?_cons_succ, List.getElem?_nil, List.set_cons_zero, List.set_cons_succ, Nat.reduceAdd, Nat.reduceSub, Nat.reduceMul, Nat.reduceEqDiff, Nat.reduceLeDiff, Nat.reduceLT, Int.add_zero, Int.zero_add, List.map_reverse, Nat.reduceBEq, Int.reduceAdd, Int.reduceSub, Int.reduceLT, Int.reduceLE, Int.reduceEq, Int.reduceNeg, Int.reduceToNat, Int.reduceMul, Nat.zero_add, Nat.add_zero, if_true, if_false, reduceIte, decide_true, decide_false, decide_eq_true_eq, Bool.not_true, Bool.not_false, Bool.and_true, Bool.true_and, Bool.and_self, Bool.and_false, Bool.false_and, Bool.or_true, Bool.true_or, Bool.or_false, Bool.false_or, Bool.false_eq_true, Bool.true_eq_false, and_self, and_true, true_and, true_or, or_true, Bool.or_self, Bool.not_not, Function.comp_apply, ne_eq, not_true_eq_false, not_false_eq_true, allL_yes, List.filterMap_cons, List.filterMap_nil, f1, f2, f3, f4, f5, f6]
theorem law_true : ∀ ns : List Int, ns.length ≤ 63 → F_law [.fl (ns.map .int)] = some (.v (.bl true)) := fun ns hn => by
  obtain ⟨s', e1, j, e2⟩ := forF_inv (t := tgN 1) (b := lawB) D.int (fun s => ∃ j, s = (⟨[.v (.fl (ns.map .int)), j], []⟩ : S)) ((List.range 2).map fun i => (0 : Int) + (i : Nat)) ⟨[.v (.fl (ns.map .int)), .no], []⟩ (fun x hx s hs => by
    obtain ⟨j, rfl⟩ := hs
    obtain ⟨i, hi, rfl⟩ := List.mem_map.mp hx
    have hi := List.mem_range.mp hi
    obtain ⟨a, b, e3⟩ := e_bag ns hn (0 + (i : Nat)) (by omega) (by omega)
    obtain ⟨m', e4⟩ := e_right a b
    refine ⟨⟨[.v (.fl (ns.map .int)), .v (.int (0 + (i : Nat)))], []⟩, .inl ?_, _, rfl⟩
    generalize (0 + (i : Int)) = x at *
    simp only [lawB, runV, runI, entV, entI, endV, endI, seqs, ifs, retv, reto, setv, seto, asg, drop1, retn, getv, geto, cst, bor, ofO, ofV, asL, seqD, bin2, bin2o, tst, chn, andv, orv, notv, ifv, andt, ort, nott, anil, acons, astar, astarB, mkT, mkL, call1, callo, callF, callFo, callKF, perm, rtD, S.setv, S.setO, szOk, subD_e, ltD_e, leD_e, gtD_e, geD_e, modD_e, fdivD_e, powD_e, addD_i, addD_l, addD_t, mulT_i, mulT_l, mulT_t, mulOk, negF, eqD, neD, isN, notN, ixD_t, ixD_l, ixD_f, lenD_t, lenD_l, lenD_f, lenL, tupD_t, tupD_l, tupD_f, tupL, listD_t, listD_l, listD_f, listL, intD_i, intD_b, absD_e, max2D, min2D, sumL, sumD_t, sumD_l, sortedV_t, sortedV_l, sortedV_f, sortedG_ints, isi_int, isi_bl, isi_tup, isi_lst, isi_str, isi_non, kb_ii, kb_ib, kb_is, kb_it, kb_il, kb_bi, kb_bb, kb_bs, kb_bt, kb_bl, kb_ti, kb_tb, kb_ts, kb_tt, kb_tl, kb_li, kb_lb, kb_ls, kb_lt, kb_ll, kb_si, kb_sb, kb_ss, kb_st, kb_sl, kb_ni, kb_nb, kb_ns, kb_nt, kb_nl, nxt, never, brk, ctn, itS, parA, mnil, mcv, mco, setAll, tgN, tgT, tgsC, tgs0, yes, lcStep, wipeS, wipeL, backS, backL, keepS, intsD_map, boolsD_map, sortRo, revF, revD, callN, callI, ownO, putO, ixO, setIx, appE, Option.bind_some, Option.map_some, Option.bind_none, Option.map_none, List.length_cons, List.length_nil, List.length_map, List.map_cons, List.map_nil, List.cons_append, List.nil_append, List.append_nil, List.replicate_succ, List.replicate_zero, List.reduceReplicate, List.getElem?_cons_zero, List.getElem?_cons_succ, List.getElem?_nil, List.set_cons_zero, List.set_cons_succ, Nat.reduceAdd, Nat.reduceSub, Nat.reduceMul, Nat.reduceEqDiff, Nat.reduceLeDiff, Nat.reduceLT, Int.add_zero, Int.zero_add, List.map_reverse, Nat.reduceBEq, Int.reduceAdd, Int.reduceSub, Int.reduceLT, Int.reduceLE, Int.reduceEq, Int.reduceNeg, Int.reduceToNat, Int.reduceMul, Nat.zero_add, Nat.add_zero, if_true, if_false, reduceIte, decide_true, decide_false, decide_eq_true_eq, Bool.not_true, Bool.not_false, Bool.and_true, Bool.true_and, Bool.and_self, Bool.and_false, Bool.false_and, Bool.or_true, Bool.true_or, Bool.or_false, Bool.false_or, Bool.false_eq_true, Bool.true_eq_false, and_self, and_true, true_and, true_or, or_true, Bool.or_self, Bool.not_not, Function.comp_apply, ne_eq, not_true_eq_false, not_false_eq_true, allL_yes, List.filterMap_cons, List.filterMap_nil, e3, e4]) ⟨_, rfl⟩
  subst e2
  rw [← rng_ints] at e1
  have e5 := fors_e (itR1_e (f := acons (cst (.int 2)) anil) (s := ⟨[.v (.fl (ns.map .int)), .no], []⟩) (s' := ⟨[.v (.fl (ns.map .int)), .no], []⟩) (i := 2) (by simp only [runV, runI, entV, entI, endV, endI, seqs, ifs, retv, reto, setv, seto, asg, drop1, retn, getv, geto, cst, bor, ofO, ofV, asL, seqD, bin2, bin2o, tst, chn, andv, orv, notv, ifv, andt, ort, nott, anil, acons, astar, astarB, mkT, mkL, call1, callo, callF, callFo, callKF, perm, rtD, S.setv, S.setO, szOk, subD_e, ltD_e, leD_e, gtD_e, geD_e, modD_e, fdivD_e, powD_e, addD_i, addD_l, addD_t, mulT_i, mulT_l, mulT_t, mulOk, negF, eqD, neD, isN, notN, ixD_t, ixD_l, ixD_f, lenD_t, lenD_l, lenD_f, lenL, tupD_t, tupD_l, tupD_f, tupL, listD_t, listD_l, listD_f, listL, intD_i, intD_b, absD_e, max2D, min2D, sumL, sumD_t, sumD_l, sortedV_t, sortedV_l, sortedV_f, sortedG_ints, isi_int, isi_bl, isi_tup, isi_lst, isi_str, isi_non, kb_ii, kb_ib, kb_is, kb_it, kb_il, kb_bi, kb_bb, kb_bs, kb_bt, kb_bl, kb_ti, kb_tb, kb_ts, kb_tt, kb_tl, kb_li, kb_lb, kb_ls, kb_lt, kb_ll, kb_si, kb_sb, kb_ss, kb_st, kb_sl, kb_ni, kb_nb, kb_ns, kb_nt, kb_nl, nxt, never, brk, ctn, itS, parA, mnil, mcv, mco, setAll, tgN, tgT, tgsC, tgs0, yes, lcStep, wipeS, wipeL, backS, backL, keepS, intsD_map, boolsD_map, sortRo, revF, revD, callN, callI, ownO, putO, ixO, setIx, appE, Option.bind_some, Option.map_some, Option.bind_none, Option.map_none, List.length_cons, List.length_nil, List.length_map, List.map_cons, List.map_nil, List.cons_append, List.nil_append, List.append_nil, List.replicate_succ, List.replicate_zero, List.reduceReplicate, List.getElem?_cons_zero, List.getElem?_cons_succ, List.getElem?_nil, List.set_cons_zero, List.set_cons_succ, Nat.reduceAdd, Nat.reduceSub, Nat.reduceMul, Nat.reduceEqDiff, Nat.reduceLeDiff, Nat.reduceLT, Int.add_zero, Int.zero_add, List.map_reverse, Nat.reduceBEq, Int.reduceAdd, Int.reduceSub, Int.reduceLT, Int.reduceLE, Int.reduceEq, Int.reduceNeg, Int.reduceToNat, Int.reduceMul, Nat.zero_add, Nat.add_zero, if_true, if_false, reduceIte, decide_true, decide_false, decide_eq_true_eq, Bool.not_true, Bool.not_false, Bool.and_true, Bool.true_and, Bool.and_self, Bool.and_false, Bool.false_and, Bool.or_true, Bool.true_or, Bool.or_false, Bool.false_or, Bool.false_eq_true, Bool.true_eq_false, and_self, and_true, true_and, true_or, or_true, Bool.or_self, Bool.not_not, Function.comp_apply, ne_eq, not_true_eq_false, not_false_eq_true, allL_yes, List.filterMap_cons, List.filterMap_nil]) (by decide)) e1
  refine runV_e ⟨[.v (.fl (ns.map .int)), .no], []⟩ rfl rfl (o := some (.rt (.bl true) ⟨[.v (.fl (ns.map .int)), j], []⟩)) ?_ rfl
  unfold lawB at e5
  unfold g_law
  rw [seqs_nx e5, fin_at]
end K65
namespace K65
open PySem L2 DL DLT PyProof.Rows
theorem all_mk {P : Program} {w : World} {K : PySem.W.Frag} {h : Heap} {mg : Str → Option Value} {fa : Addr} (X : K.In h) (G : h.Ns mainGlobals mg) (hfa : mg "law" = some (.ref fa))
  {od_is_integer an_is_integer : Option Addr} {sl_is_integer : Array (Option Value)} {oc_is_integer kV_is_integer dc_is_integer pm_is_integer cd_is_integer ct_is_integer : Value} {f_is_integer : Addr}
  {od_is_within_bounds an_is_within_bounds : Option Addr} {sl_is_within_bounds : Array (Option Value)} {oc_is_within_bounds kV_is_within_bounds dc_is_within_bounds pm_is_within_bounds cd_is_within_bounds ct_is_within_bounds : Value} {f_is_within_bounds : Addr}
  {od_check_within an_check_within : Option Addr} {sl_check_within : Array (Option Value)} {oc_check_within kV_check_within dc_check_within pm_check_within cd_check_within ct_check_within : Value} {f_check_within : Addr}
  {od_is_falling an_is_falling : Option Addr} {sl_is_falling : Array (Option Value)} {oc_is_falling kV_is_falling dc_is_falling pm_is_falling cd_is_falling ct_is_falling : Value} {f_is_falling : Addr}
  {od_is_row an_is_row : Option Addr} {sl_is_row : Array (Option Value)} {oc_is_row kV_is_row dc_is_row pm_is_row cd_is_row ct_is_row : Value} {f_is_row : Addr}
  {od_check_row an_check_row : Option Addr} {sl_check_row : Array (Option Value)} {oc_check_row kV_check_row dc_check_row pm_check_row cd_check_row ct_check_row : Value} {f_check_row : Addr}
  {od_falling_row an_falling_row : Option Addr} {sl_falling_row : Array (Option Value)} {oc_falling_row kV_falling_row dc_falling_row pm_falling_row cd_falling_row ct_falling_row : Value} {f_falling_row : Addr}
  {od_times_in an_times_in : Option Addr} {sl_times_in : Array (Option Value)} {oc_times_in kV_times_in dc_times_in pm_times_in cd_times_in ct_times_in : Value} {f_times_in : Addr}
  {od_sizes_of an_sizes_of : Option Addr} {sl_sizes_of : Array (Option Value)} {oc_sizes_of kV_sizes_of dc_sizes_of pm_sizes_of cd_sizes_of ct_sizes_of : Value} {f_sizes_of : Addr}
  {od_turned_row an_turned_row : Option Addr} {sl_turned_row : Array (Option Value)} {oc_turned_row kV_turned_row dc_turned_row pm_turned_row cd_turned_row ct_turned_row : Value} {f_turned_row : Addr}
  {od_turned an_turned : Option Addr} {sl_turned : Array (Option Value)} {oc_turned kV_turned dc_turned pm_turned cd_turned ct_turned : Value} {f_turned : Addr}
  {od_taken_out an_taken_out : Option Addr} {sl_taken_out : Array (Option Value)} {oc_taken_out kV_taken_out dc_taken_out pm_taken_out cd_taken_out ct_taken_out : Value} {f_taken_out : Addr}
  {od_rows_within an_rows_within : Option Addr} {sl_rows_within : Array (Option Value)} {oc_rows_within kV_rows_within dc_rows_within pm_rows_within cd_rows_within ct_rows_within : Value} {f_rows_within : Addr}
  {od_all_rows an_all_rows : Option Addr} {sl_all_rows : Array (Option Value)} {oc_all_rows kV_all_rows dc_all_rows pm_all_rows cd_all_rows ct_all_rows : Value} {f_all_rows : Addr}
  {od_next_row an_next_row : Option Addr} {sl_next_row : Array (Option Value)} {oc_next_row kV_next_row dc_next_row pm_next_row cd_next_row ct_next_row : Value} {f_next_row : Addr}
  {od_dealt an_dealt : Option Addr} {sl_dealt : Array (Option Value)} {oc_dealt kV_dealt dc_dealt pm_dealt cd_dealt ct_dealt : Value} {f_dealt : Addr}
  {od_rows_ahead an_rows_ahead : Option Addr} {sl_rows_ahead : Array (Option Value)} {oc_rows_ahead kV_rows_ahead dc_rows_ahead pm_rows_ahead cd_rows_ahead ct_rows_ahead : Value} {f_rows_ahead : Addr}
  {od_dealt_from an_dealt_from : Option Addr} {sl_dealt_from : Array (Option Value)} {oc_dealt_from kV_dealt_from dc_dealt_from pm_dealt_from cd_dealt_from ct_dealt_from : Value} {f_dealt_from : Addr}
  {od_is_garden an_is_garden : Option Addr} {sl_is_garden : Array (Option Value)} {oc_is_garden kV_is_garden dc_is_garden pm_is_garden cd_is_garden ct_is_garden : Value} {f_is_garden : Addr}
  {od_rank_of an_rank_of : Option Addr} {sl_rank_of : Array (Option Value)} {oc_rank_of kV_rank_of dc_rank_of pm_rank_of cd_rank_of ct_rank_of : Value} {f_rank_of : Addr}
  {od_rank an_rank : Option Addr} {sl_rank : Array (Option Value)} {oc_rank kV_rank dc_rank pm_rank cd_rank ct_rank : Value} {f_rank : Addr}
  {od_shared an_shared : Option Addr} {sl_shared : Array (Option Value)} {oc_shared kV_shared dc_shared pm_shared cd_shared ct_shared : Value} {f_shared : Addr}
  {od_by_rank an_by_rank : Option Addr} {sl_by_rank : Array (Option Value)} {oc_by_rank kV_by_rank dc_by_rank pm_by_rank cd_by_rank ct_by_rank : Value} {f_by_rank : Addr}
  {od__law_bag an__law_bag : Option Addr} {sl__law_bag : Array (Option Value)} {oc__law_bag kV__law_bag dc__law_bag pm__law_bag cd__law_bag ct__law_bag : Value} {f__law_bag : Addr}
  {od__law_draw an__law_draw : Option Addr} {sl__law_draw : Array (Option Value)} {oc__law_draw kV__law_draw dc__law_draw pm__law_draw cd__law_draw ct__law_draw : Value} {f__law_draw : Addr}
  {od__law_alike an__law_alike : Option Addr} {sl__law_alike : Array (Option Value)} {oc__law_alike kV__law_alike dc__law_alike pm__law_alike cd__law_alike ct__law_alike : Value} {f__law_alike : Addr}
  {od__law_row an__law_row : Option Addr} {sl__law_row : Array (Option Value)} {oc__law_row kV__law_row dc__law_row pm__law_row cd__law_row ct__law_row : Value} {f__law_row : Addr}
  {od__law_in_order an__law_in_order : Option Addr} {sl__law_in_order : Array (Option Value)} {oc__law_in_order kV__law_in_order dc__law_in_order pm__law_in_order cd__law_in_order ct__law_in_order : Value} {f__law_in_order : Addr}
  {od__law_row_right an__law_row_right : Option Addr} {sl__law_row_right : Array (Option Value)} {oc__law_row_right kV__law_row_right dc__law_row_right pm__law_row_right cd__law_row_right ct__law_row_right : Value} {f__law_row_right : Addr}
  {od__law_number_right an__law_number_right : Option Addr} {sl__law_number_right : Array (Option Value)} {oc__law_number_right kV__law_number_right dc__law_number_right pm__law_number_right cd__law_number_right ct__law_number_right : Value} {f__law_number_right : Addr}
  {od__law_right an__law_right : Option Addr} {sl__law_right : Array (Option Value)} {oc__law_right kV__law_right dc__law_right pm__law_right cd__law_right ct__law_right : Value} {f__law_right : Addr}
  {od_law an_law : Option Addr} {sl_law : Array (Option Value)} {oc_law kV_law dc_law pm_law cd_law ct_law : Value} {f_law : Addr}
  {t_LEAST_BY : Tok}
  {t_MOST_BY : Tok}
  {t_MOST_LISTED : Tok}
  {t_MOST_SUM : Tok}
  (a_is_integer : PySem.W.nsIn K mainGlobals "is_integer" = some (some (.ref f_is_integer))) (l_is_integer : K.lookup f_is_integer = some ⟨oc_is_integer, od_is_integer, .func (PySem.W.fnOf "is_integer" "is_integer" (defArgs s_is_integer) (defBody s_is_integer) (defScope s_is_integer) .none kV_is_integer dc_is_integer pm_is_integer an_is_integer cd_is_integer ct_is_integer), sl_is_integer⟩) (c_is_integer : PySem.W.codeIn K cd_is_integer "is_integer" = true) (k_is_integer : PySem.W.keepIn K (.ref f_is_integer) = true)
  (a_is_within_bounds : PySem.W.nsIn K mainGlobals "is_within_bounds" = some (some (.ref f_is_within_bounds))) (l_is_within_bounds : K.lookup f_is_within_bounds = some ⟨oc_is_within_bounds, od_is_within_bounds, .func (PySem.W.fnOf "is_within_bounds" "is_within_bounds" (defArgs s_is_within_bounds) (defBody s_is_within_bounds) (defScope s_is_within_bounds) .none kV_is_within_bounds dc_is_within_bounds pm_is_within_bounds an_is_within_bounds cd_is_within_bounds ct_is_within_bounds), sl_is_within_bounds⟩) (c_is_within_bounds : PySem.W.codeIn K cd_is_within_bounds "is_within_bounds" = true) (k_is_within_bounds : PySem.W.keepIn K (.ref f_is_within_bounds) = true)
  (a_check_within : PySem.W.nsIn K mainGlobals "check_within" = some (some (.ref f_check_within))) (l_check_within : K.lookup f_check_within = some ⟨oc_check_within, od_check_within, .func (PySem.W.fnOf "check_within" "check_within" (defArgs s_check_within) (defBody s_check_within) (defScope s_check_within) .none kV_check_within dc_check_within pm_check_within an_check_within cd_check_within ct_check_within), sl_check_within⟩) (c_check_within : PySem.W.codeIn K cd_check_within "check_within" = true) (k_check_within : PySem.W.keepIn K (.ref f_check_within) = true)
  (a_is_falling : PySem.W.nsIn K mainGlobals "is_falling" = some (some (.ref f_is_falling))) (l_is_falling : K.lookup f_is_falling = some ⟨oc_is_falling, od_is_falling, .func (PySem.W.fnOf "is_falling" "is_falling" (defArgs s_is_falling) (defBody s_is_falling) (defScope s_is_falling) .none kV_is_falling dc_is_falling pm_is_falling an_is_falling cd_is_falling ct_is_falling), sl_is_falling⟩) (c_is_falling : PySem.W.codeIn K cd_is_falling "is_falling" = true) (k_is_falling : PySem.W.keepIn K (.ref f_is_falling) = true)
  (a_is_row : PySem.W.nsIn K mainGlobals "is_row" = some (some (.ref f_is_row))) (l_is_row : K.lookup f_is_row = some ⟨oc_is_row, od_is_row, .func (PySem.W.fnOf "is_row" "is_row" (defArgs s_is_row) (defBody s_is_row) (defScope s_is_row) .none kV_is_row dc_is_row pm_is_row an_is_row cd_is_row ct_is_row), sl_is_row⟩) (c_is_row : PySem.W.codeIn K cd_is_row "is_row" = true) (k_is_row : PySem.W.keepIn K (.ref f_is_row) = true)
  (a_check_row : PySem.W.nsIn K mainGlobals "check_row" = some (some (.ref f_check_row))) (l_check_row : K.lookup f_check_row = some ⟨oc_check_row, od_check_row, .func (PySem.W.fnOf "check_row" "check_row" (defArgs s_check_row) (defBody s_check_row) (defScope s_check_row) .none kV_check_row dc_check_row pm_check_row an_check_row cd_check_row ct_check_row), sl_check_row⟩) (c_check_row : PySem.W.codeIn K cd_check_row "check_row" = true) (k_check_row : PySem.W.keepIn K (.ref f_check_row) = true)
  (a_falling_row : PySem.W.nsIn K mainGlobals "falling_row" = some (some (.ref f_falling_row))) (l_falling_row : K.lookup f_falling_row = some ⟨oc_falling_row, od_falling_row, .func (PySem.W.fnOf "falling_row" "falling_row" (defArgs s_falling_row) (defBody s_falling_row) (defScope s_falling_row) .none kV_falling_row dc_falling_row pm_falling_row an_falling_row cd_falling_row ct_falling_row), sl_falling_row⟩) (c_falling_row : PySem.W.codeIn K cd_falling_row "falling_row" = true) (k_falling_row : PySem.W.keepIn K (.ref f_falling_row) = true)
  (a_times_in : PySem.W.nsIn K mainGlobals "times_in" = some (some (.ref f_times_in))) (l_times_in : K.lookup f_times_in = some ⟨oc_times_in, od_times_in, .func (PySem.W.fnOf "times_in" "times_in" (defArgs s_times_in) (defBody s_times_in) (defScope s_times_in) .none kV_times_in dc_times_in pm_times_in an_times_in cd_times_in ct_times_in), sl_times_in⟩) (c_times_in : PySem.W.codeIn K cd_times_in "times_in" = true) (k_times_in : PySem.W.keepIn K (.ref f_times_in) = true)
  (a_sizes_of : PySem.W.nsIn K mainGlobals "sizes_of" = some (some (.ref f_sizes_of))) (l_sizes_of : K.lookup f_sizes_of = some ⟨oc_sizes_of, od_sizes_of, .func (PySem.W.fnOf "sizes_of" "sizes_of" (defArgs s_sizes_of) (defBody s_sizes_of) (defScope s_sizes_of) .none kV_sizes_of dc_sizes_of pm_sizes_of an_sizes_of cd_sizes_of ct_sizes_of), sl_sizes_of⟩) (c_sizes_of : PySem.W.codeIn K cd_sizes_of "sizes_of" = true) (k_sizes_of : PySem.W.keepIn K (.ref f_sizes_of) = true)
  (a_turned_row : PySem.W.nsIn K mainGlobals "turned_row" = some (some (.ref f_turned_row))) (l_turned_row : K.lookup f_turned_row = some ⟨oc_turned_row, od_turned_row, .func (PySem.W.fnOf "turned_row" "turned_row" (defArgs s_turned_row) (defBody s_turned_row) (defScope s_turned_row) .none kV_turned_row dc_turned_row pm_turned_row an_turned_row cd_turned_row ct_turned_row), sl_turned_row⟩) (c_turned_row : PySem.W.codeIn K cd_turned_row "turned_row" = true) (k_turned_row : PySem.W.keepIn K (.ref f_turned_row) = true)
  (a_turned : PySem.W.nsIn K mainGlobals "turned" = some (some (.ref f_turned))) (l_turned : K.lookup f_turned = some ⟨oc_turned, od_turned, .func (PySem.W.fnOf "turned" "turned" (defArgs s_turned) (defBody s_turned) (defScope s_turned) .none kV_turned dc_turned pm_turned an_turned cd_turned ct_turned), sl_turned⟩) (c_turned : PySem.W.codeIn K cd_turned "turned" = true) (k_turned : PySem.W.keepIn K (.ref f_turned) = true)
  (a_taken_out : PySem.W.nsIn K mainGlobals "taken_out" = some (some (.ref f_taken_out))) (l_taken_out : K.lookup f_taken_out = some ⟨oc_taken_out, od_taken_out, .func (PySem.W.fnOf "taken_out" "taken_out" (defArgs s_taken_out) (defBody s_taken_out) (defScope s_taken_out) .none kV_taken_out dc_taken_out pm_taken_out an_taken_out cd_taken_out ct_taken_out), sl_taken_out⟩) (c_taken_out : PySem.W.codeIn K cd_taken_out "taken_out" = true) (k_taken_out : PySem.W.keepIn K (.ref f_taken_out) = true)
  (a_rows_within : PySem.W.nsIn K mainGlobals "rows_within" = some (some (.ref f_rows_within))) (l_rows_within : K.lookup f_rows_within = some ⟨oc_rows_within, od_rows_within, .func (PySem.W.fnOf "rows_within" "rows_within" (defArgs s_rows_within) (defBody s_rows_within) (defScope s_rows_within) .none kV_rows_within dc_rows_within pm_rows_within an_rows_within cd_rows_within ct_rows_within), sl_rows_within⟩) (c_rows_within : PySem.W.codeIn K cd_rows_within "rows_within" = true) (k_rows_within : PySem.W.keepIn K (.ref f_rows_within) = true)
  (a_all_rows : PySem.W.nsIn K mainGlobals "all_rows" = some (some (.ref f_all_rows))) (l_all_rows : K.lookup f_all_rows = some ⟨oc_all_rows, od_all_rows, .func (PySem.W.fnOf "all_rows" "all_rows" (defArgs s_all_rows) (defBody s_all_rows) (defScope s_all_rows) .none kV_all_rows dc_all_rows pm_all_rows an_all_rows cd_all_rows ct_all_rows), sl_all_rows⟩) (c_all_rows : PySem.W.codeIn K cd_all_rows "all_rows" = true) (k_all_rows : PySem.W.keepIn K (.ref f_all_rows) = true)
  (a_next_row : PySem.W.nsIn K mainGlobals "next_row" = some (some (.ref f_next_row))) (l_next_row : K.lookup f_next_row = some ⟨oc_next_row, od_next_row, .func (PySem.W.fnOf "next_row" "next_row" (defArgs s_next_row) (defBody s_next_row) (defScope s_next_row) .none kV_next_row dc_next_row pm_next_row an_next_row cd_next_row ct_next_row), sl_next_row⟩) (c_next_row : PySem.W.codeIn K cd_next_row "next_row" = true) (k_next_row : PySem.W.keepIn K (.ref f_next_row) = true)
  (a_dealt : PySem.W.nsIn K mainGlobals "dealt" = some (some (.ref f_dealt))) (l_dealt : K.lookup f_dealt = some ⟨oc_dealt, od_dealt, .func (PySem.W.fnOf "dealt" "dealt" (defArgs s_dealt) (defBody s_dealt) (defScope s_dealt) .none kV_dealt dc_dealt pm_dealt an_dealt cd_dealt ct_dealt), sl_dealt⟩) (c_dealt : PySem.W.codeIn K cd_dealt "dealt" = true) (k_dealt : PySem.W.keepIn K (.ref f_dealt) = true)
  (a_rows_ahead : PySem.W.nsIn K mainGlobals "rows_ahead" = some (some (.ref f_rows_ahead))) (l_rows_ahead : K.lookup f_rows_ahead = some ⟨oc_rows_ahead, od_rows_ahead, .func (PySem.W.fnOf "rows_ahead" "rows_ahead" (defArgs s_rows_ahead) (defBody s_rows_ahead) (defScope s_rows_ahead) .none kV_rows_ahead dc_rows_ahead pm_rows_ahead an_rows_ahead cd_rows_ahead ct_rows_ahead), sl_rows_ahead⟩) (c_rows_ahead : PySem.W.codeIn K cd_rows_ahead "rows_ahead" = true) (k_rows_ahead : PySem.W.keepIn K (.ref f_rows_ahead) = true)
  (a_dealt_from : PySem.W.nsIn K mainGlobals "dealt_from" = some (some (.ref f_dealt_from))) (l_dealt_from : K.lookup f_dealt_from = some ⟨oc_dealt_from, od_dealt_from, .func (PySem.W.fnOf "dealt_from" "dealt_from" (defArgs s_dealt_from) (defBody s_dealt_from) (defScope s_dealt_from) .none kV_dealt_from dc_dealt_from pm_dealt_from an_dealt_from cd_dealt_from ct_dealt_from), sl_dealt_from⟩) (c_dealt_from : PySem.W.codeIn K cd_dealt_from "dealt_from" = true) (k_dealt_from : PySem.W.keepIn K (.ref f_dealt_from) = true)
  (a_is_garden : PySem.W.nsIn K mainGlobals "is_garden" = some (some (.ref f_is_garden))) (l_is_garden : K.lookup f_is_garden = some ⟨oc_is_garden, od_is_garden, .func (PySem.W.fnOf "is_garden" "is_garden" (defArgs s_is_garden) (defBody s_is_garden) (defScope s_is_garden) .none kV_is_garden dc_is_garden pm_is_garden an_is_garden cd_is_garden ct_is_garden), sl_is_garden⟩) (c_is_garden : PySem.W.codeIn K cd_is_garden "is_garden" = true) (k_is_garden : PySem.W.keepIn K (.ref f_is_garden) = true)
  (a_rank_of : PySem.W.nsIn K mainGlobals "rank_of" = some (some (.ref f_rank_of))) (l_rank_of : K.lookup f_rank_of = some ⟨oc_rank_of, od_rank_of, .func (PySem.W.fnOf "rank_of" "rank_of" (defArgs s_rank_of) (defBody s_rank_of) (defScope s_rank_of) .none kV_rank_of dc_rank_of pm_rank_of an_rank_of cd_rank_of ct_rank_of), sl_rank_of⟩) (c_rank_of : PySem.W.codeIn K cd_rank_of "rank_of" = true) (k_rank_of : PySem.W.keepIn K (.ref f_rank_of) = true)
  (a_rank : PySem.W.nsIn K mainGlobals "rank" = some (some (.ref f_rank))) (l_rank : K.lookup f_rank = some ⟨oc_rank, od_rank, .func (PySem.W.fnOf "rank" "rank" (defArgs s_rank) (defBody s_rank) (defScope s_rank) .none kV_rank dc_rank pm_rank an_rank cd_rank ct_rank), sl_rank⟩) (c_rank : PySem.W.codeIn K cd_rank "rank" = true) (k_rank : PySem.W.keepIn K (.ref f_rank) = true)
  (a_shared : PySem.W.nsIn K mainGlobals "shared" = some (some (.ref f_shared))) (l_shared : K.lookup f_shared = some ⟨oc_shared, od_shared, .func (PySem.W.fnOf "shared" "shared" (defArgs s_shared) (defBody s_shared) (defScope s_shared) .none kV_shared dc_shared pm_shared an_shared cd_shared ct_shared), sl_shared⟩) (c_shared : PySem.W.codeIn K cd_shared "shared" = true) (k_shared : PySem.W.keepIn K (.ref f_shared) = true)
  (a_by_rank : PySem.W.nsIn K mainGlobals "by_rank" = some (some (.ref f_by_rank))) (l_by_rank : K.lookup f_by_rank = some ⟨oc_by_rank, od_by_rank, .func (PySem.W.fnOf "by_rank" "by_rank" (defArgs s_by_rank) (defBody s_by_rank) (defScope s_by_rank) .none kV_by_rank dc_by_rank pm_by_rank an_by_rank cd_by_rank ct_by_rank), sl_by_rank⟩) (c_by_rank : PySem.W.codeIn K cd_by_rank "by_rank" = true) (k_by_rank : PySem.W.keepIn K (.ref f_by_rank) = true)
  (a__law_bag : PySem.W.nsIn K mainGlobals "_law_bag" = some (some (.ref f__law_bag))) (l__law_bag : K.lookup f__law_bag = some ⟨oc__law_bag, od__law_bag, .func (PySem.W.fnOf "_law_bag" "_law_bag" (defArgs s__law_bag) (defBody s__law_bag) (defScope s__law_bag) .none kV__law_bag dc__law_bag pm__law_bag an__law_bag cd__law_bag ct__law_bag), sl__law_bag⟩) (c__law_bag : PySem.W.codeIn K cd__law_bag "_law_bag" = true) (k__law_bag : PySem.W.keepIn K (.ref f__law_bag) = true)
  (a__law_draw : PySem.W.nsIn K mainGlobals "_law_draw" = some (some (.ref f__law_draw))) (l__law_draw : K.lookup f__law_draw = some ⟨oc__law_draw, od__law_draw, .func (PySem.W.fnOf "_law_draw" "_law_draw" (defArgs s__law_draw) (defBody s__law_draw) (defScope s__law_draw) .none kV__law_draw dc__law_draw pm__law_draw an__law_draw cd__law_draw ct__law_draw), sl__law_draw⟩) (c__law_draw : PySem.W.codeIn K cd__law_draw "_law_draw" = true) (k__law_draw : PySem.W.keepIn K (.ref f__law_draw) = true)
  (a__law_alike : PySem.W.nsIn K mainGlobals "_law_alike" = some (some (.ref f__law_alike))) (l__law_alike : K.lookup f__law_alike = some ⟨oc__law_alike, od__law_alike, .func (PySem.W.fnOf "_law_alike" "_law_alike" (defArgs s__law_alike) (defBody s__law_alike) (defScope s__law_alike) .none kV__law_alike dc__law_alike pm__law_alike an__law_alike cd__law_alike ct__law_alike), sl__law_alike⟩) (c__law_alike : PySem.W.codeIn K cd__law_alike "_law_alike" = true) (k__law_alike : PySem.W.keepIn K (.ref f__law_alike) = true)
  (a__law_row : PySem.W.nsIn K mainGlobals "_law_row" = some (some (.ref f__law_row))) (l__law_row : K.lookup f__law_row = some ⟨oc__law_row, od__law_row, .func (PySem.W.fnOf "_law_row" "_law_row" (defArgs s__law_row) (defBody s__law_row) (defScope s__law_row) .none kV__law_row dc__law_row pm__law_row an__law_row cd__law_row ct__law_row), sl__law_row⟩) (c__law_row : PySem.W.codeIn K cd__law_row "_law_row" = true) (k__law_row : PySem.W.keepIn K (.ref f__law_row) = true)
  (a__law_in_order : PySem.W.nsIn K mainGlobals "_law_in_order" = some (some (.ref f__law_in_order))) (l__law_in_order : K.lookup f__law_in_order = some ⟨oc__law_in_order, od__law_in_order, .func (PySem.W.fnOf "_law_in_order" "_law_in_order" (defArgs s__law_in_order) (defBody s__law_in_order) (defScope s__law_in_order) .none kV__law_in_order dc__law_in_order pm__law_in_order an__law_in_order cd__law_in_order ct__law_in_order), sl__law_in_order⟩) (c__law_in_order : PySem.W.codeIn K cd__law_in_order "_law_in_order" = true) (k__law_in_order : PySem.W.keepIn K (.ref f__law_in_order) = true)
  (a__law_row_right : PySem.W.nsIn K mainGlobals "_law_row_right" = some (some (.ref f__law_row_right))) (l__law_row_right : K.lookup f__law_row_right = some ⟨oc__law_row_right, od__law_row_right, .func (PySem.W.fnOf "_law_row_right" "_law_row_right" (defArgs s__law_row_right) (defBody s__law_row_right) (defScope s__law_row_right) .none kV__law_row_right dc__law_row_right pm__law_row_right an__law_row_right cd__law_row_right ct__law_row_right), sl__law_row_right⟩) (c__law_row_right : PySem.W.codeIn K cd__law_row_right "_law_row_right" = true) (k__law_row_right : PySem.W.keepIn K (.ref f__law_row_right) = true)
  (a__law_number_right : PySem.W.nsIn K mainGlobals "_law_number_right" = some (some (.ref f__law_number_right))) (l__law_number_right : K.lookup f__law_number_right = some ⟨oc__law_number_right, od__law_number_right, .func (PySem.W.fnOf "_law_number_right" "_law_number_right" (defArgs s__law_number_right) (defBody s__law_number_right) (defScope s__law_number_right) .none kV__law_number_right dc__law_number_right pm__law_number_right an__law_number_right cd__law_number_right ct__law_number_right), sl__law_number_right⟩) (c__law_number_right : PySem.W.codeIn K cd__law_number_right "_law_number_right" = true) (k__law_number_right : PySem.W.keepIn K (.ref f__law_number_right) = true)
  (a__law_right : PySem.W.nsIn K mainGlobals "_law_right" = some (some (.ref f__law_right))) (l__law_right : K.lookup f__law_right = some ⟨oc__law_right, od__law_right, .func (PySem.W.fnOf "_law_right" "_law_right" (defArgs s__law_right) (defBody s__law_right) (defScope s__law_right) .none kV__law_right dc__law_right pm__law_right an__law_right cd__law_right ct__law_right), sl__law_right⟩) (c__law_right : PySem.W.codeIn K cd__law_right "_law_right" = true) (k__law_right : PySem.W.keepIn K (.ref f__law_right) = true)
  (a_law : PySem.W.nsIn K mainGlobals "law" = some (some (.ref f_law))) (l_law : K.lookup f_law = some ⟨oc_law, od_law, .func (PySem.W.fnOf "law" "law" (defArgs s_law) (defBody s_law) (defScope s_law) .none kV_law dc_law pm_law an_law cd_law ct_law), sl_law⟩) (c_law : PySem.W.codeIn K cd_law "law" = true) (k_law : PySem.W.keepIn K (.ref f_law) = true)
  (n_abs : PySem.W.nsIn K mainGlobals "abs" = some none)
  (n_all : PySem.W.nsIn K mainGlobals "all" = some none)
  (n_bool : PySem.W.nsIn K mainGlobals "bool" = some none)
  (n_enumerate : PySem.W.nsIn K mainGlobals "enumerate" = some none)
  (n_int : PySem.W.nsIn K mainGlobals "int" = some none)
  (n_isinstance : PySem.W.nsIn K mainGlobals "isinstance" = some none)
  (n_len : PySem.W.nsIn K mainGlobals "len" = some none)
  (n_list : PySem.W.nsIn K mainGlobals "list" = some none)
  (n_max : PySem.W.nsIn K mainGlobals "max" = some none)
  (n_min : PySem.W.nsIn K mainGlobals "min" = some none)
  (n_range : PySem.W.nsIn K mainGlobals "range" = some none)
  (n_set : PySem.W.nsIn K mainGlobals "set" = some none)
  (n_sorted : PySem.W.nsIn K mainGlobals "sorted" = some none)
  (n_str : PySem.W.nsIn K mainGlobals "str" = some none)
  (n_sum : PySem.W.nsIn K mainGlobals "sum" = some none)
  (n_tuple : PySem.W.nsIn K mainGlobals "tuple" = some none)
  (n_zip : PySem.W.nsIn K mainGlobals "zip" = some none)
  (g_LEAST_BY : PySem.W.nsIn K mainGlobals "LEAST_BY" = some (some (.int 2 t_LEAST_BY)))
  (g_MOST_BY : PySem.W.nsIn K mainGlobals "MOST_BY" = some (some (.int 20 t_MOST_BY)))
  (g_MOST_LISTED : PySem.W.nsIn K mainGlobals "MOST_LISTED" = some (some (.int 24 t_MOST_LISTED)))
  (g_MOST_SUM : PySem.W.nsIn K mainGlobals "MOST_SUM" = some (some (.int 600 t_MOST_SUM))) :
  ∃ fd : FuncData, (∀ (s : Shared) (u : Value), BindsTo s fd ⟨[u], []⟩ [("script", u)]) ∧ ∀ base : Heap, K.In base → base.Ns mainGlobals mg → FnOk P w K mg base CX0 44 fa fd ["script"] (spV K 1 F_law) := by
  have nb : Nb mg := ⟨PySem.W.mg_none_of X G n_abs, PySem.W.mg_none_of X G n_all, PySem.W.mg_none_of X G n_bool, PySem.W.mg_none_of X G n_enumerate, PySem.W.mg_none_of X G n_int, PySem.W.mg_none_of X G n_isinstance, PySem.W.mg_none_of X G n_len, PySem.W.mg_none_of X G n_list, PySem.W.mg_none_of X G n_max, PySem.W.mg_none_of X G n_min, PySem.W.mg_none_of X G n_range, PySem.W.mg_none_of X G n_set, PySem.W.mg_none_of X G n_sorted, PySem.W.mg_none_of X G n_str, PySem.W.mg_none_of X G n_sum, PySem.W.mg_none_of X G n_tuple, PySem.W.mg_none_of X G n_zip, ⟨_, PySem.W.mg_of X G g_LEAST_BY⟩, ⟨_, PySem.W.mg_of X G g_MOST_BY⟩, ⟨_, PySem.W.mg_of X G g_MOST_LISTED⟩, ⟨_, PySem.W.mg_of X G g_MOST_SUM⟩⟩
  have h_is_integer : At K mg "is_integer" s_is_integer p_is_integer := ⟨f_is_integer, _, PySem.W.mg_of X G a_is_integer, (fun_mk (st := s_is_integer) l_is_integer c_is_integer k_is_integer).binds (ps := p_is_integer) (fun _ _ _ _ _ _ us hl => match us, hl with | [_], _ => rfl), fun_mk (st := s_is_integer) l_is_integer c_is_integer k_is_integer⟩
  have h_is_within_bounds : At K mg "is_within_bounds" s_is_within_bounds p_is_within_bounds := ⟨f_is_within_bounds, _, PySem.W.mg_of X G a_is_within_bounds, (fun_mk (st := s_is_within_bounds) l_is_within_bounds c_is_within_bounds k_is_within_bounds).binds (ps := p_is_within_bounds) (fun _ _ _ _ _ _ us hl => match us, hl with | [_, _, _], _ => rfl), fun_mk (st := s_is_within_bounds) l_is_within_bounds c_is_within_bounds k_is_within_bounds⟩
  have h_check_within : At K mg "check_within" s_check_within p_check_within := ⟨f_check_within, _, PySem.W.mg_of X G a_check_within, (fun_mk (st := s_check_within) l_check_within c_check_within k_check_within).binds (ps := p_check_within) (fun _ _ _ _ _ _ us hl => match us, hl with | [_, _, _], _ => rfl), fun_mk (st := s_check_within) l_check_within c_check_within k_check_within⟩
  have h_is_falling : At K mg "is_falling" s_is_falling p_is_falling := ⟨f_is_falling, _, PySem.W.mg_of X G a_is_falling, (fun_mk (st := s_is_falling) l_is_falling c_is_falling k_is_falling).binds (ps := p_is_falling) (fun _ _ _ _ _ _ us hl => match us, hl with | [_, _], _ => rfl), fun_mk (st := s_is_falling) l_is_falling c_is_falling k_is_falling⟩
  have h_is_row : At K mg "is_row" s_is_row p_is_row := ⟨f_is_row, _, PySem.W.mg_of X G a_is_row, (fun_mk (st := s_is_row) l_is_row c_is_row k_is_row).binds (ps := p_is_row) (fun _ _ _ _ _ _ us hl => match us, hl with | [_], _ => rfl), fun_mk (st := s_is_row) l_is_row c_is_row k_is_row⟩
  have h_check_row : At K mg "check_row" s_check_row p_check_row := ⟨f_check_row, _, PySem.W.mg_of X G a_check_row, (fun_mk (st := s_check_row) l_check_row c_check_row k_check_row).binds (ps := p_check_row) (fun _ _ _ _ _ _ us hl => match us, hl with | [_], _ => rfl), fun_mk (st := s_check_row) l_check_row c_check_row k_check_row⟩
  have h_falling_row : At K mg "falling_row" s_falling_row p_falling_row := ⟨f_falling_row, _, PySem.W.mg_of X G a_falling_row, (fun_mk (st := s_falling_row) l_falling_row c_falling_row k_falling_row).binds (ps := p_falling_row) (fun _ _ _ _ _ _ us hl => match us, hl with | [_], _ => rfl), fun_mk (st := s_falling_row) l_falling_row c_falling_row k_falling_row⟩
  have h_times_in : At K mg "times_in" s_times_in p_times_in := ⟨f_times_in, _, PySem.W.mg_of X G a_times_in, (fun_mk (st := s_times_in) l_times_in c_times_in k_times_in).binds (ps := p_times_in) (fun _ _ _ _ _ _ us hl => match us, hl with | [_, _], _ => rfl), fun_mk (st := s_times_in) l_times_in c_times_in k_times_in⟩
  have h_sizes_of : At K mg "sizes_of" s_sizes_of p_sizes_of := ⟨f_sizes_of, _, PySem.W.mg_of X G a_sizes_of, (fun_mk (st := s_sizes_of) l_sizes_of c_sizes_of k_sizes_of).binds (ps := p_sizes_of) (fun _ _ _ _ _ _ us hl => match us, hl with | [_], _ => rfl), fun_mk (st := s_sizes_of) l_sizes_of c_sizes_of k_sizes_of⟩
  have h_turned_row : At K mg "turned_row" s_turned_row p_turned_row := ⟨f_turned_row, _, PySem.W.mg_of X G a_turned_row, (fun_mk (st := s_turned_row) l_turned_row c_turned_row k_turned_row).binds (ps := p_turned_row) (fun _ _ _ _ _ _ us hl => match us, hl with | [_], _ => rfl), fun_mk (st := s_turned_row) l_turned_row c_turned_row k_turned_row⟩
  have h_turned : At K mg "turned" s_turned p_turned := ⟨f_turned, _, PySem.W.mg_of X G a_turned, (fun_mk (st := s_turned) l_turned c_turned k_turned).binds (ps := p_turned) (fun _ _ _ _ _ _ us hl => match us, hl with | [_], _ => rfl), fun_mk (st := s_turned) l_turned c_turned k_turned⟩
  have h_taken_out : At K mg "taken_out" s_taken_out p_taken_out := ⟨f_taken_out, _, PySem.W.mg_of X G a_taken_out, (fun_mk (st := s_taken_out) l_taken_out c_taken_out k_taken_out).binds (ps := p_taken_out) (fun _ _ _ _ _ _ us hl => match us, hl with | [_, _], _ => rfl), fun_mk (st := s_taken_out) l_taken_out c_taken_out k_taken_out⟩
  have h_rows_within : At K mg "rows_within" s_rows_within p_rows_within := ⟨f_rows_within, _, PySem.W.mg_of X G a_rows_within, (fun_mk (st := s_rows_within) l_rows_within c_rows_within k_rows_within).binds (ps := p_rows_within) (fun _ _ _ _ _ _ us hl => match us, hl with | [_, _], _ => rfl), fun_mk (st := s_rows_within) l_rows_within c_rows_within k_rows_within⟩
  have h_all_rows : At K mg "all_rows" s_all_rows p_all_rows := ⟨f_all_rows, _, PySem.W.mg_of X G a_all_rows, (fun_mk (st := s_all_rows) l_all_rows c_all_rows k_all_rows).binds (ps := p_all_rows) (fun _ _ _ _ _ _ us hl => match us, hl with | [_], _ => rfl), fun_mk (st := s_all_rows) l_all_rows c_all_rows k_all_rows⟩
  have h_next_row : At K mg "next_row" s_next_row p_next_row := ⟨f_next_row, _, PySem.W.mg_of X G a_next_row, (fun_mk (st := s_next_row) l_next_row c_next_row k_next_row).binds (ps := p_next_row) (fun _ _ _ _ _ _ us hl => match us, hl with | [_], _ => rfl), fun_mk (st := s_next_row) l_next_row c_next_row k_next_row⟩
  have h_dealt : At K mg "dealt" s_dealt p_dealt := ⟨f_dealt, _, PySem.W.mg_of X G a_dealt, (fun_mk (st := s_dealt) l_dealt c_dealt k_dealt).binds (ps := p_dealt) (fun _ _ _ _ _ _ us hl => match us, hl with | [_], _ => rfl), fun_mk (st := s_dealt) l_dealt c_dealt k_dealt⟩
  have h_rows_ahead : At K mg "rows_ahead" s_rows_ahead p_rows_ahead := ⟨f_rows_ahead, _, PySem.W.mg_of X G a_rows_ahead, (fun_mk (st := s_rows_ahead) l_rows_ahead c_rows_ahead k_rows_ahead).binds (ps := p_rows_ahead) (fun _ _ _ _ _ _ us hl => match us, hl with | [_], _ => rfl), fun_mk (st := s_rows_ahead) l_rows_ahead c_rows_ahead k_rows_ahead⟩
  have h_dealt_from : At K mg "dealt_from" s_dealt_from p_dealt_from := ⟨f_dealt_from, _, PySem.W.mg_of X G a_dealt_from, (fun_mk (st := s_dealt_from) l_dealt_from c_dealt_from k_dealt_from).binds (ps := p_dealt_from) (fun _ _ _ _ _ _ us hl => match us, hl with | [_], _ => rfl), fun_mk (st := s_dealt_from) l_dealt_from c_dealt_from k_dealt_from⟩
  have h_is_garden : At K mg "is_garden" s_is_garden p_is_garden := ⟨f_is_garden, _, PySem.W.mg_of X G a_is_garden, (fun_mk (st := s_is_garden) l_is_garden c_is_garden k_is_garden).binds (ps := p_is_garden) (fun _ _ _ _ _ _ us hl => match us, hl with | [_], _ => rfl), fun_mk (st := s_is_garden) l_is_garden c_is_garden k_is_garden⟩
  have h_rank_of : At K mg "rank_of" s_rank_of p_rank_of := ⟨f_rank_of, _, PySem.W.mg_of X G a_rank_of, (fun_mk (st := s_rank_of) l_rank_of c_rank_of k_rank_of).binds (ps := p_rank_of) (fun _ _ _ _ _ _ us hl => match us, hl with | [_], _ => rfl), fun_mk (st := s_rank_of) l_rank_of c_rank_of k_rank_of⟩
  have h_rank : At K mg "rank" s_rank p_rank := ⟨f_rank, _, PySem.W.mg_of X G a_rank, (fun_mk (st := s_rank) l_rank c_rank k_rank).binds (ps := p_rank) (fun _ _ _ _ _ _ us hl => match us, hl with | [_], _ => rfl), fun_mk (st := s_rank) l_rank c_rank k_rank⟩
  have h_shared : At K mg "shared" s_shared p_shared := ⟨f_shared, _, PySem.W.mg_of X G a_shared, (fun_mk (st := s_shared) l_shared c_shared k_shared).binds (ps := p_shared) (fun _ _ _ _ _ _ us hl => match us, hl with | [_, _], _ => rfl), fun_mk (st := s_shared) l_shared c_shared k_shared⟩
  have h_by_rank : At K mg "by_rank" s_by_rank p_by_rank := ⟨f_by_rank, _, PySem.W.mg_of X G a_by_rank, (fun_mk (st := s_by_rank) l_by_rank c_by_rank k_by_rank).binds (ps := p_by_rank) (fun _ _ _ _ _ _ us hl => match us, hl with | [_, _], _ => rfl), fun_mk (st := s_by_rank) l_by_rank c_by_rank k_by_rank⟩
  have h__law_bag : At K mg "_law_bag" s__law_bag p__law_bag := ⟨f__law_bag, _, PySem.W.mg_of X G a__law_bag, (fun_mk (st := s__law_bag) l__law_bag c__law_bag k__law_bag).binds (ps := p__law_bag) (fun _ _ _ _ _ _ us hl => match us, hl with | [_, _], _ => rfl), fun_mk (st := s__law_bag) l__law_bag c__law_bag k__law_bag⟩
  have h__law_draw : At K mg "_law_draw" s__law_draw p__law_draw := ⟨f__law_draw, _, PySem.W.mg_of X G a__law_draw, (fun_mk (st := s__law_draw) l__law_draw c__law_draw k__law_draw).binds (ps := p__law_draw) (fun _ _ _ _ _ _ us hl => match us, hl with | [_, _], _ => rfl), fun_mk (st := s__law_draw) l__law_draw c__law_draw k__law_draw⟩
  have h__law_alike : At K mg "_law_alike" s__law_alike p__law_alike := ⟨f__law_alike, _, PySem.W.mg_of X G a__law_alike, (fun_mk (st := s__law_alike) l__law_alike c__law_alike k__law_alike).binds (ps := p__law_alike) (fun _ _ _ _ _ _ us hl => match us, hl with | [_, _], _ => rfl), fun_mk (st := s__law_alike) l__law_alike c__law_alike k__law_alike⟩
  have h__law_row : At K mg "_law_row" s__law_row p__law_row := ⟨f__law_row, _, PySem.W.mg_of X G a__law_row, (fun_mk (st := s__law_row) l__law_row c__law_row k__law_row).binds (ps := p__law_row) (fun _ _ _ _ _ _ us hl => match us, hl with | [_, _], _ => rfl), fun_mk (st := s__law_row) l__law_row c__law_row k__law_row⟩
  have h__law_in_order : At K mg "_law_in_order" s__law_in_order p__law_in_order := ⟨f__law_in_order, _, PySem.W.mg_of X G a__law_in_order, (fun_mk (st := s__law_in_order) l__law_in_order c__law_in_order k__law_in_order).binds (ps := p__law_in_order) (fun _ _ _ _ _ _ us hl => match us, hl with | [_], _ => rfl), fun_mk (st := s__law_in_order) l__law_in_order c__law_in_order k__law_in_order⟩
  have h__law_row_right : At K mg "_law_row_right" s__law_row_right p__law_row_right := ⟨f__law_row_right, _, PySem.W.mg_of X G a__law_row_right, (fun_mk (st := s__law_row_right) l__law_row_right c__law_row_right k__law_row_right).binds (ps := p__law_row_right) (fun _ _ _ _ _ _ us hl => match us, hl with | [_], _ => rfl), fun_mk (st := s__law_row_right) l__law_row_right c__law_row_right k__law_row_right⟩
  have h__law_number_right : At K mg "_law_number_right" s__law_number_right p__law_number_right := ⟨f__law_number_right, _, PySem.W.mg_of X G a__law_number_right, (fun_mk (st := s__law_number_right) l__law_number_right c__law_number_right k__law_number_right).binds (ps := p__law_number_right) (fun _ _ _ _ _ _ us hl => match us, hl with | [_, _], _ => rfl), fun_mk (st := s__law_number_right) l__law_number_right c__law_number_right k__law_number_right⟩
  have h__law_right : At K mg "_law_right" s__law_right p__law_right := ⟨f__law_right, _, PySem.W.mg_of X G a__law_right, (fun_mk (st := s__law_right) l__law_right c__law_right k__law_right).binds (ps := p__law_right) (fun _ _ _ _ _ _ us hl => match us, hl with | [_], _ => rfl), fun_mk (st := s__law_right) l__law_right c__law_right k__law_right⟩
  have h_law : At K mg "law" s_law p_law := ⟨f_law, _, PySem.W.mg_of X G a_law, (fun_mk (st := s_law) l_law c_law k_law).binds (ps := p_law) (fun _ _ _ _ _ _ us hl => match us, hl with | [_], _ => rfl), fun_mk (st := s_law) l_law c_law k_law⟩
  refine ⟨PySem.W.fnOf "law" "law" (defArgs s_law) (defBody s_law) (defScope s_law) .none kV_law dc_law pm_law an_law cd_law ct_law, fun s u => .of_eq rfl, fun base _ _ => ?_⟩
  have D_is_integer : Df P w K mg base 1 "is_integer" s_is_integer p_is_integer (spV K 1 F_is_integer) := ok_is_integer (P := P) (w := w) (base := base) nb h_is_integer 
  have D_is_within_bounds : Df P w K mg base 2 "is_within_bounds" s_is_within_bounds p_is_within_bounds (spV K 3 F_is_within_bounds) := ok_is_within_bounds (P := P) (w := w) (base := base) nb h_is_within_bounds D_is_integer
  have D_check_within : Df P w K mg base 3 "check_within" s_check_within p_check_within (spV K 3 F_check_within) := ok_check_within (P := P) (w := w) (base := base) nb h_check_within D_is_within_bounds
  have D_is_falling : Df P w K mg base 1 "is_falling" s_is_falling p_is_falling (spV K 2 F_is_falling) := ok_is_falling (P := P) (w := w) (base := base) nb h_is_falling 
  have D_is_row : Df P w K mg base 3 "is_row" s_is_row p_is_row (spV K 1 F_is_row) := ok_is_row (P := P) (w := w) (base := base) nb h_is_row D_is_within_bounds D_is_falling
  have D_check_row : Df P w K mg base 4 "check_row" s_check_row p_check_row (spV K 1 F_check_row) := ok_check_row (P := P) (w := w) (base := base) nb h_check_row D_is_row
  have D_falling_row : Df P w K mg base 1 "falling_row" s_falling_row p_falling_row (spV K 1 F_falling_row) := ok_falling_row (P := P) (w := w) (base := base) nb h_falling_row 
  have D_times_in : Df P w K mg base 1 "times_in" s_times_in p_times_in (spV K 2 F_times_in) := ok_times_in (P := P) (w := w) (base := base) nb h_times_in 
  have D_sizes_of : Df P w K mg base 1 "sizes_of" s_sizes_of p_sizes_of (spV K 1 F_sizes_of) := ok_sizes_of (P := P) (w := w) (base := base) nb h_sizes_of 
  have D_turned_row : Df P w K mg base 1 "turned_row" s_turned_row p_turned_row (spV K 1 F_turned_row) := ok_turned_row (P := P) (w := w) (base := base) nb h_turned_row 
  have D_turned : Df P w K mg base 5 "turned" s_turned p_turned (spV K 1 F_turned) := ok_turned (P := P) (w := w) (base := base) nb h_turned D_check_row D_turned_row
  have D_taken_out : Df P w K mg base 2 "taken_out" s_taken_out p_taken_out (spV K 2 F_taken_out) := ok_taken_out (P := P) (w := w) (base := base) nb h_taken_out D_sizes_of D_times_in
  have D_rows_within : Df P w K mg base 40 "rows_within" s_rows_within p_rows_within (spV K 2 (F_rows_within 40)) := ok_rows_within (P := P) (w := w) (base := base) nb h_rows_within  40
  have D_all_rows : Df P w K mg base 41 "all_rows" s_all_rows p_all_rows (spV K 1 F_all_rows) := ok_all_rows (P := P) (w := w) (base := base) nb h_all_rows D_check_within D_rows_within
  have D_next_row : Df P w K mg base 2 "next_row" s_next_row p_next_row (spV K 1 F_next_row) := ok_next_row (P := P) (w := w) (base := base) nb h_next_row D_falling_row
  have D_dealt : Df P w K mg base 5 "dealt" s_dealt p_dealt (spV K 1 F_dealt) := ok_dealt (P := P) (w := w) (base := base) nb h_dealt D_check_row D_next_row
  have D_rows_ahead : Df P w K mg base 3 "rows_ahead" s_rows_ahead p_rows_ahead (spV K 1 F_rows_ahead) := ok_rows_ahead (P := P) (w := w) (base := base) nb h_rows_ahead D_sizes_of D_falling_row D_taken_out
  have D_dealt_from : Df P w K mg base 5 "dealt_from" s_dealt_from p_dealt_from (spV K 1 F_dealt_from) := ok_dealt_from (P := P) (w := w) (base := base) nb h_dealt_from D_check_row D_rows_ahead
  have D_is_garden : Df P w K mg base 5 "is_garden" s_is_garden p_is_garden (spV K 1 F_is_garden) := ok_is_garden (P := P) (w := w) (base := base) nb h_is_garden D_check_row D_rows_ahead
  have D_rank_of : Df P w K mg base 1 "rank_of" s_rank_of p_rank_of (spV K 1 F_rank_of) := ok_rank_of (P := P) (w := w) (base := base) nb h_rank_of 
  have D_rank : Df P w K mg base 5 "rank" s_rank p_rank (spV K 1 F_rank) := ok_rank (P := P) (w := w) (base := base) nb h_rank D_check_row D_rank_of
  have D_shared : Df P w K mg base 1 "shared" s_shared p_shared (spV K 2 F_shared) := ok_shared (P := P) (w := w) (base := base) nb h_shared 
  have D_by_rank : Df P w K mg base 41 "by_rank" s_by_rank p_by_rank (spV K 2 F_by_rank) := ok_by_rank (P := P) (w := w) (base := base) nb h_by_rank D_check_within D_shared D_rank_of D_rows_within
  have D__law_bag : Df P w K mg base 1 "_law_bag" s__law_bag p__law_bag (spV K 2 F__law_bag) := ok__law_bag (P := P) (w := w) (base := base) nb h__law_bag 
  have D__law_draw : Df P w K mg base 1 "_law_draw" s__law_draw p__law_draw (spI K 2 F__law_draw) := ok__law_draw (P := P) (w := w) (base := base) nb h__law_draw 
  have D__law_alike : Df P w K mg base 40 "_law_alike" s__law_alike p__law_alike (spV K 2 (F__law_alike 40)) := ok__law_alike (P := P) (w := w) (base := base) nb h__law_alike  40
  have D__law_row : Df P w K mg base 2 "_law_row" s__law_row p__law_row (spI K 2 F__law_row) := ok__law_row (P := P) (w := w) (base := base) nb h__law_row D__law_draw
  have D__law_in_order : Df P w K mg base 1 "_law_in_order" s__law_in_order p__law_in_order (spV K 1 F__law_in_order) := ok__law_in_order (P := P) (w := w) (base := base) nb h__law_in_order 
  have D__law_row_right : Df P w K mg base 41 "_law_row_right" s__law_row_right p__law_row_right (spV K 1 F__law_row_right) := ok__law_row_right (P := P) (w := w) (base := base) nb h__law_row_right D_rank D_dealt_from D_turned D__law_alike D__law_in_order D_is_garden D_dealt
  have D__law_number_right : Df P w K mg base 42 "_law_number_right" s__law_number_right p__law_number_right (spI K 2 F__law_number_right) := ok__law_number_right (P := P) (w := w) (base := base) nb h__law_number_right D_all_rows D_is_garden D_rank D__law_draw D_by_rank D__law_alike
  have D__law_right : Df P w K mg base 43 "_law_right" s__law_right p__law_right (spI K 1 F__law_right) := ok__law_right (P := P) (w := w) (base := base) nb h__law_right D__law_row D__law_draw D__law_row_right D__law_number_right
  have D_law : Df P w K mg base 44 "law" s_law p_law (spV K 1 F_law) := ok_law (P := P) (w := w) (base := base) nb h_law D__law_right D__law_bag D_is_garden D_dealt_from D_dealt D_by_rank
  obtain ⟨fa2, fd2, h1, h2, h3, h4, h5⟩ := D_law
  exact df_end hfa (PySem.W.mg_of X G a_law) l_law h1 h2 h5
theorem walk {l : PySem.W.OpenLaw} {q : Program} {loose : List Str} {XP : (Str → Option Value) → Heap → Prop} {YP : World → Heap → Prop} {d : DefRec} {K : Params → PySem.W.Frag} (hn : l.most = some 63) (hdf : d.params.defaults = []) (hY : ∀ (w : World) (h : Heap), YP w h → (K w.params).In h)
    (F : ∀ (w : World) (mg : Str → Option Value) (fa : Addr) (h : Heap), (K w.params).In h → h.Ns mainGlobals mg → mg d.name = some (.ref fa) →
      ∃ fd : FuncData, (∀ (s : Shared) (u : Value), BindsTo s fd ⟨[u], []⟩ [("script", u)]) ∧ ∀ base : Heap, (K w.params).In base → base.Ns mainGlobals mg → FnOk l.prog w (K w.params) mg base CX0 44 fa fd ["script"] (spV (K w.params) 1 F_law))
    (ht : ∀ ns : List Int, ns.length ≤ 63 → F_law [.fl (ns.map .int)] = some (.v (.bl true))) : PySem.W.WalkO q loose XP YP l.row.toRowW d [] (fun f vs => PySem.call f vs) :=
  L2.walk_of (n := 63) (k := 44) (x := "script") (CX := fun _ => CX0) (sp := fun w => spV (K w.params) 1 F_law) hn (by decide) hdf ⟨rfl, by decide, by decide⟩ hY F (fun w H a ns hl _ hS => sp_law hS (ht ns hl)) fun _ _ _ _ _ z => z
end K65
open PySem PySem.W PyProof.Rows
set_option maxRecDepth 100000 in
set_option maxHeartbeats 0 in
theorem PySem.Challenge.cw_partleans_k65_across_gardens_ranks_and_h_holds : PySem.Challenge.rw_partleans_k65_across_gardens_ranks_and_h.Holds := by
  w_on; o_law; k_head; (case hw => w_witness2)
  k_fill
  refine K65.walk (l := PySem.Challenge.rw_partleans_k65_across_gardens_ranks_and_h) rfl rfl (fun w h Y => PySem.W.kIn_of Y) ?F K65.law_true
  case F =>
    intro w mg fa h KX G hmg
    refine' K65.all_mk KX G hmg ?a_is_integer ?l_is_integer ?c_is_integer ?k_is_integer ?a_is_within_bounds ?l_is_within_bounds ?c_is_within_bounds ?k_is_within_bounds ?a_check_within ?l_check_within ?c_check_within ?k_check_within ?a_is_falling ?l_is_falling ?c_is_falling ?k_is_falling ?a_is_row ?l_is_row ?c_is_row ?k_is_row ?a_check_row ?l_check_row ?c_check_row ?k_check_row ?a_falling_row ?l_falling_row ?c_falling_row ?k_falling_row ?a_times_in ?l_times_in ?c_times_in ?k_times_in ?a_sizes_of ?l_sizes_of ?c_sizes_of ?k_sizes_of ?a_turned_row ?l_turned_row ?c_turned_row ?k_turned_row ?a_turned ?l_turned ?c_turned ?k_turned ?a_taken_out ?l_taken_out ?c_taken_out ?k_taken_out ?a_rows_within ?l_rows_within ?c_rows_within ?k_rows_within ?a_all_rows ?l_all_rows ?c_all_rows ?k_all_rows ?a_next_row ?l_next_row ?c_next_row ?k_next_row ?a_dealt ?l_dealt ?c_dealt ?k_dealt ?a_rows_ahead ?l_rows_ahead ?c_rows_ahead ?k_rows_ahead ?a_dealt_from ?l_dealt_from ?c_dealt_from ?k_dealt_from ?a_is_garden ?l_is_garden ?c_is_garden ?k_is_garden ?a_rank_of ?l_rank_of ?c_rank_of ?k_rank_of ?a_rank ?l_rank ?c_rank ?k_rank ?a_shared ?l_shared ?c_shared ?k_shared ?a_by_rank ?l_by_rank ?c_by_rank ?k_by_rank ?a__law_bag ?l__law_bag ?c__law_bag ?k__law_bag ?a__law_draw ?l__law_draw ?c__law_draw ?k__law_draw ?a__law_alike ?l__law_alike ?c__law_alike ?k__law_alike ?a__law_row ?l__law_row ?c__law_row ?k__law_row ?a__law_in_order ?l__law_in_order ?c__law_in_order ?k__law_in_order ?a__law_row_right ?l__law_row_right ?c__law_row_right ?k__law_row_right ?a__law_number_right ?l__law_number_right ?c__law_number_right ?k__law_number_right ?a__law_right ?l__law_right ?c__law_right ?k__law_right ?a_law ?l_law ?c_law ?k_law ?n_abs ?n_all ?n_bool ?n_enumerate ?n_int ?n_isinstance ?n_len ?n_list ?n_max ?n_min ?n_range ?n_set ?n_sorted ?n_str ?n_sum ?n_tuple ?n_zip ?g_LEAST_BY ?g_MOST_BY ?g_MOST_LISTED ?g_MOST_SUM
    (case a_is_integer => k_is)
    (case l_is_integer => k_is)
    (case c_is_integer => k_is)
    (case k_is_integer => k_is)
    (case a_is_within_bounds => k_is)
    (case l_is_within_bounds => k_is)
    (case c_is_within_bounds => k_is)
    (case k_is_within_bounds => k_is)
    (case a_check_within => k_is)
    (case l_check_within => k_is)
    (case c_check_within => k_is)
    (case k_check_within => k_is)
    (case a_is_falling => k_is)
    (case l_is_falling => k_is)
    (case c_is_falling => k_is)
    (case k_is_falling => k_is)
    (case a_is_row => k_is)
    (case l_is_row => k_is)
    (case c_is_row => k_is)
    (case k_is_row => k_is)
    (case a_check_row => k_is)
    (case l_check_row => k_is)
    (case c_check_row => k_is)
    (case k_check_row => k_is)
    (case a_falling_row => k_is)
    (case l_falling_row => k_is)
    (case c_falling_row => k_is)
    (case k_falling_row => k_is)
    (case a_times_in => k_is)
    (case l_times_in => k_is)
    (case c_times_in => k_is)
    (case k_times_in => k_is)
    (case a_sizes_of => k_is)
    (case l_sizes_of => k_is)
    (case c_sizes_of => k_is)
    (case k_sizes_of => k_is)
    (case a_turned_row => k_is)
    (case l_turned_row => k_is)
    (case c_turned_row => k_is)
    (case k_turned_row => k_is)
    (case a_turned => k_is)
    (case l_turned => k_is)
    (case c_turned => k_is)
    (case k_turned => k_is)
    (case a_taken_out => k_is)
    (case l_taken_out => k_is)
    (case c_taken_out => k_is)
    (case k_taken_out => k_is)
    (case a_rows_within => k_is)
    (case l_rows_within => k_is)
    (case c_rows_within => k_is)
    (case k_rows_within => k_is)
    (case a_all_rows => k_is)
    (case l_all_rows => k_is)
    (case c_all_rows => k_is)
    (case k_all_rows => k_is)
    (case a_next_row => k_is)
    (case l_next_row => k_is)
    (case c_next_row => k_is)
    (case k_next_row => k_is)
    (case a_dealt => k_is)
    (case l_dealt => k_is)
    (case c_dealt => k_is)
    (case k_dealt => k_is)
    (case a_rows_ahead => k_is)
    (case l_rows_ahead => k_is)
    (case c_rows_ahead => k_is)
    (case k_rows_ahead => k_is)
    (case a_dealt_from => k_is)
    (case l_dealt_from => k_is)
    (case c_dealt_from => k_is)
    (case k_dealt_from => k_is)
    (case a_is_garden => k_is)
    (case l_is_garden => k_is)
    (case c_is_garden => k_is)
    (case k_is_garden => k_is)
    (case a_rank_of => k_is)
    (case l_rank_of => k_is)
    (case c_rank_of => k_is)
    (case k_rank_of => k_is)
    (case a_rank => k_is)
    (case l_rank => k_is)
    (case c_rank => k_is)
    (case k_rank => k_is)
    (case a_shared => k_is)
    (case l_shared => k_is)
    (case c_shared => k_is)
    (case k_shared => k_is)
    (case a_by_rank => k_is)
    (case l_by_rank => k_is)
    (case c_by_rank => k_is)
    (case k_by_rank => k_is)
    (case a__law_bag => k_is)
    (case l__law_bag => k_is)
    (case c__law_bag => k_is)
    (case k__law_bag => k_is)
    (case a__law_draw => k_is)
    (case l__law_draw => k_is)
    (case c__law_draw => k_is)
    (case k__law_draw => k_is)
    (case a__law_alike => k_is)
    (case l__law_alike => k_is)
    (case c__law_alike => k_is)
    (case k__law_alike => k_is)
    (case a__law_row => k_is)
    (case l__law_row => k_is)
    (case c__law_row => k_is)
    (case k__law_row => k_is)
    (case a__law_in_order => k_is)
    (case l__law_in_order => k_is)
    (case c__law_in_order => k_is)
    (case k__law_in_order => k_is)
    (case a__law_row_right => k_is)
    (case l__law_row_right => k_is)
    (case c__law_row_right => k_is)
    (case k__law_row_right => k_is)
    (case a__law_number_right => k_is)
    (case l__law_number_right => k_is)
    (case c__law_number_right => k_is)
    (case k__law_number_right => k_is)
    (case a__law_right => k_is)
    (case l__law_right => k_is)
    (case c__law_right => k_is)
    (case k__law_right => k_is)
    (case a_law => k_is)
    (case l_law => k_is)
    (case c_law => k_is)
    (case k_law => k_is)
    (case n_abs => k_is)
    (case n_all => k_is)
    (case n_bool => k_is)
    (case n_enumerate => k_is)
    (case n_int => k_is)
    (case n_isinstance => k_is)
    (case n_len => k_is)
    (case n_list => k_is)
    (case n_max => k_is)
    (case n_min => k_is)
    (case n_range => k_is)
    (case n_set => k_is)
    (case n_sorted => k_is)
    (case n_str => k_is)
    (case n_sum => k_is)
    (case n_tuple => k_is)
    (case n_zip => k_is)
    (case g_LEAST_BY => k_is)
    (case g_MOST_BY => k_is)
    (case g_MOST_LISTED => k_is)
    (case g_MOST_SUM => k_is)
