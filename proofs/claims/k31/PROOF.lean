import PyProof.Rows.All
import Wide.All
import OpenK.AllK
import Wide.FinOn
import HandS.ForMost
import HandS.Exc
import HandS.TryMany
import HandS.CallSlots
import HandS.Evl
import HandS.Flow
import HandS.Style
import HandS.IsInst
import HandS.TupAny
import KE.SortData
import HandS.Deep
import HandS.ExcOwn
import HandS.ExcInit
import HandS.ExcSuper
import KE.KExcSuper
import HandS.ExcField
import HandS.WordsExc
import PySem.Challenge.RW_nonearer_k31_whole_queues
import KE.RegKTryMore
import KE.RegKSuper
set_option Elab.async false
set_option linter.all false
set_option maxRecDepth 100000
set_option maxHeartbeats 2000000
/-! A functional reading of the program's text: values, heaps, results; how they stand for what the model has. -/
namespace Dn
open PySem L2 Evl

/-- a value: plain data, or the n-th object of the heap, or the k-th def of the program -/
inductive W where
  | non | bl (b : Bool) | int (i : Int) | str (s : List Nat) | tup (xs : List W) | lst (xs : List W) | loc (n : Nat) | fn (k : Nat)
  deriving Inhabited
/-- an object that may change -/
inductive AO where
  | lst (xs : List W) | ins (c : Nat) (fs : List (Nat × W))
  deriving Inhabited
abbrev AH := List AO
abbrev Ev := List (Option W)
/-- what comes of an expression: a value, an exception of the c-th class with its fields, or nothing that is told -/
inductive R (α : Type) where
  | ok (a : α) (h : AH) | ex (c : Nat) (fs : List (Nat × W)) (h : AH) | bad
abbrev Den := Ev → AH → R W

/-- where the program's defs and classes stand -/
structure Tb where
  fa : Nat → Addr
  ca : Nat → Addr
  nm : List Str
  nd : nm.Nodup
/-- the text of code points -/
def sOf (s : List Nat) : Str := ⟨s.toArray⟩
def sOk (s : List Nat) : Bool := s.all (· < 1114112)
/-- where the objects stand; what stands for good -/
structure Wo where
  ρ : List Addr
  F : Hp
  /-- what is another's for now -/
  G : Hp
def Wo.Le (a b : Wo) : Prop := (∀ (n : Nat) p, a.ρ[n]? = some p → b.ρ[n]? = some p) ∧ Ex a.F b.F ∧ a.G = b.G
theorem Wo.Le.refl (a : Wo) : a.Le a := ⟨fun _ _ h => h, Ex.refl _, rfl⟩
theorem Wo.Le.trans {a b c : Wo} (h : a.Le b) (k : b.Le c) : a.Le c := ⟨fun n p e => k.1 n p (h.1 n p e), h.2.1.trans k.2.1, h.2.2.trans k.2.2⟩

section
variable (K : PySem.W.Frag) (T : Tb) (ω : Wo)
mutual
def Rep : W → V → Prop
  | .non, v => v = .non
  | .bl b, v => v = .bl b
  | .int i, v => v = .int i
  | .str s, v => v = .str (sOf s) ∧ s.length ≤ sizeLine ∧ sOk s = true
  | .tup xs, v => ∃ a vs, v = .ref a ∧ SqT K ω.F a vs ∧ xs.length ≤ sizeLine ∧ RepL xs vs
  | .lst xs, v => ∃ a vs, v = .ref a ∧ SqL K ω.F a vs ∧ xs.length ≤ sizeLine ∧ RepL xs vs
  | .loc n, v => ∃ a, v = .ref a ∧ ω.ρ[n]? = some a
  | .fn k, v => v = .ref (T.fa k)
def RepL : List W → List V → Prop
  | [], vs => vs = []
  | x :: xs, vs => ∃ v r, vs = v :: r ∧ Rep x v ∧ RepL xs r
end
/-- attributes -/
def FRel : List (Nat × W) → List (Str × V) → Prop
  | [], gs => gs = []
  | (f, x) :: fs, gs => ∃ y v r, T.nm[f]? = some y ∧ gs = (y, v) :: r ∧ Rep K T ω x v ∧ FRel fs r
def ORel : AO → Option HO → Prop
  | .lst xs, o => ∃ vs, o = some (.lst vs) ∧ xs.length ≤ sizeLine ∧ RepL K T ω xs vs
  | .ins c fs, o => ∃ dx gs, o = some (.ins (T.ca c) dx gs) ∧ FRel K T ω fs gs
structure HRel (H : Hp) (h : AH) : Prop where
  fr : Ex ω.F H
  len : ω.ρ.length = h.length
  nd : ω.ρ.Nodup
  off : ∀ a ∈ ω.ρ, ω.F a = none
  gr : Ex ω.G H
  offG : ∀ a o, ω.G a = some o → ω.F a = none ∧ a ∉ ω.ρ
  at_ : ∀ (i : Nat) o a, h[i]? = some o → ω.ρ[i]? = some a → ORel K T ω o (H a)
def ERel (σ : Ev) (s : L2.St) : Prop := s.length = σ.length ∧ ∀ (i : Nat) x, σ[i]? = some (some x) → ∃ v, s[i]? = some (some v) ∧ Rep K T ω x v
end

section
variable {K : PySem.W.Frag} {T : Tb} {ω ω' : Wo} {H H' : Hp} {h : AH}
mutual
theorem Rep.mono (l : ω.Le ω') : ∀ {x : W} {v : V}, Rep K T ω x v → Rep K T ω' x v
  | .non, _, r => r
  | .bl _, _, r => r
  | .int _, _, r => r
  | .str _, _, r => r
  | .tup xs, _, ⟨a, vs, e, s, z, r⟩ => ⟨a, vs, e, ex_t l.2.1 s, z, RepL.mono l r⟩
  | .lst xs, _, ⟨a, vs, e, s, z, r⟩ => ⟨a, vs, e, ex_l l.2.1 s, z, RepL.mono l r⟩
  | .loc n, _, ⟨a, e, s⟩ => ⟨a, e, l.1 n a s⟩
  | .fn _, _, r => r
theorem RepL.mono (l : ω.Le ω') : ∀ {xs : List W} {vs : List V}, RepL K T ω xs vs → RepL K T ω' xs vs
  | [], _, r => r
  | _ :: _, _, ⟨v, t, e, r, s⟩ => ⟨v, t, e, Rep.mono l r, RepL.mono l s⟩
end
theorem FRel.mono (l : ω.Le ω') : ∀ {fs : List (Nat × W)} {gs : List (Str × V)}, FRel K T ω fs gs → FRel K T ω' fs gs
  | [], _, r => r
  | _ :: _, _, ⟨y, v, t, n, e, r, s⟩ => ⟨y, v, t, n, e, Rep.mono l r, FRel.mono l s⟩
theorem ORel.mono (l : ω.Le ω') : ∀ {o : AO} {u : Option HO}, ORel K T ω o u → ORel K T ω' o u
  | .lst _, _, ⟨vs, e, z, r⟩ => ⟨vs, e, z, RepL.mono l r⟩
  | .ins _ _, _, ⟨dx, gs, e, r⟩ => ⟨dx, gs, e, FRel.mono l r⟩
theorem ERel.mono (l : ω.Le ω') {σ : Ev} {s : L2.St} (e : ERel K T ω σ s) : ERel K T ω' σ s :=
  ⟨e.1, fun i x hx => let ⟨v, a, b⟩ := e.2 i x hx; ⟨v, a, Rep.mono l b⟩⟩
theorem ERel.set {σ : Ev} {s : L2.St} {x : W} {v : V} (e : ERel K T ω σ s) (r : Rep K T ω x v) (i : Nat) : ERel K T ω (σ.set i (some x)) (s.set i (some v)) := by
  refine ⟨by rw [List.length_set, List.length_set]; exact e.1, fun j y hy => ?_⟩
  by_cases hj : i = j
  · subst hj
    have hl : i < σ.length := by
      have := (List.getElem?_eq_some_iff.mp hy).1
      rwa [List.length_set] at this
    rw [List.getElem?_set_self hl] at hy
    cases hy
    exact ⟨v, List.getElem?_set_self (by rw [e.1]; exact hl), r⟩
  · rw [List.getElem?_set_ne hj] at hy
    obtain ⟨u, a, b⟩ := e.2 j y hy
    exact ⟨u, by rw [List.getElem?_set_ne hj]; exact a, b⟩
theorem ERel.wipe {σ : Ev} {s : L2.St} (e : ERel K T ω σ s) (i : Nat) : ERel K T ω (σ.set i none) (s.set i none) := by
  refine ⟨by rw [List.length_set, List.length_set]; exact e.1, fun j y hy => ?_⟩
  by_cases hj : i = j
  · subst hj
    by_cases hl : i < σ.length
    · rw [List.getElem?_set_self hl] at hy; cases hy
    · rw [List.getElem?_eq_none (by rw [List.length_set]; omega)] at hy; cases hy
  · rw [List.getElem?_set_ne hj] at hy
    obtain ⟨u, a, b⟩ := e.2 j y hy
    exact ⟨u, by rw [List.getElem?_set_ne hj]; exact a, b⟩

theorem RepL.length : ∀ {xs : List W} {vs : List V}, RepL K T ω xs vs → vs.length = xs.length
  | [], _, r => by rw [show _ = [] from r]; rfl
  | _ :: _, _, ⟨v, t, e, r, s⟩ => by rw [e, List.length_cons, List.length_cons, RepL.length s]
theorem RepL.get : ∀ {xs : List W} {vs : List V} {i : Nat} {x : W}, RepL K T ω xs vs → xs[i]? = some x → ∃ v, vs[i]? = some v ∧ Rep K T ω x v
  | [], _, _, _, _, e => by simp at e
  | _ :: _, _, 0, _, ⟨v, t, e, r, s⟩, q => by
    simp at q; subst q; exact ⟨v, by rw [e]; rfl, r⟩
  | _ :: _, _, i + 1, x, ⟨v, t, e, r, s⟩, q => by
    obtain ⟨u, a, b⟩ := RepL.get (i := i) (x := x) s (by simpa using q)
    exact ⟨u, by rw [e]; simpa using a, b⟩
theorem RepL.back : ∀ {xs : List W} {vs : List V} {i : Nat} {v : V}, RepL K T ω xs vs → vs[i]? = some v → ∃ x, xs[i]? = some x ∧ Rep K T ω x v
  | [], _, _, _, r, e => by rw [show _ = [] from r] at e; simp at e
  | _ :: _, _, 0, _, ⟨v, t, e, r, s⟩, q => by
    rw [e] at q; simp at q; subst q; exact ⟨_, rfl, r⟩
  | _ :: _, _, i + 1, x, ⟨v, t, e, r, s⟩, q => by
    obtain ⟨u, a, b⟩ := RepL.back (i := i) (v := x) s (by rw [e] at q; simpa using q)
    exact ⟨u, by simpa using a, b⟩
theorem RepL.append : ∀ {xs ys : List W} {us vs : List V}, RepL K T ω xs us → RepL K T ω ys vs → RepL K T ω (xs ++ ys) (us ++ vs)
  | [], _, _, _, r, s => by rw [show _ = [] from r]; exact s
  | _ :: _, _, _, _, ⟨v, t, e, r, s⟩, q => ⟨v, t ++ _, by rw [e]; rfl, r, RepL.append s q⟩
theorem RepL.take : ∀ {xs : List W} {us : List V} (n : Nat), RepL K T ω xs us → RepL K T ω (xs.take n) (us.take n)
  | _, _, 0, _ => rfl
  | [], _, n + 1, r => by rw [show _ = [] from r]; rfl
  | _ :: _, _, n + 1, ⟨v, t, e, r, s⟩ => ⟨v, t.take n, by rw [e]; rfl, r, RepL.take n s⟩
theorem RepL.drop : ∀ {xs : List W} {us : List V} (n : Nat), RepL K T ω xs us → RepL K T ω (xs.drop n) (us.drop n)
  | _, _, 0, r => r
  | [], _, n + 1, r => by rw [show _ = [] from r]; rfl
  | _ :: _, _, n + 1, ⟨v, t, e, r, s⟩ => by rw [e]; exact RepL.drop n s
theorem RepL.one {x : W} {v : V} (r : Rep K T ω x v) : RepL K T ω [x] [v] := ⟨v, [], rfl, r, rfl⟩
theorem RepL.reverse : ∀ {xs : List W} {us : List V}, RepL K T ω xs us → RepL K T ω xs.reverse us.reverse
  | [], _, r => by rw [show _ = [] from r]; rfl
  | _ :: _, _, ⟨v, t, e, r, s⟩ => by
    rw [e, List.reverse_cons, List.reverse_cons]
    exact RepL.append (RepL.reverse s) (RepL.one r)
theorem RepL.set {x : W} {v : V} (r : Rep K T ω x v) : ∀ {xs : List W} {us : List V} (i : Nat), RepL K T ω xs us → RepL K T ω (xs.set i x) (us.set i v)
  | [], _, _, q => by rw [show _ = [] from q]; rfl
  | _ :: _, _, 0, ⟨w, t, e, _, s⟩ => ⟨v, t, by rw [e]; rfl, r, s⟩
  | _ :: _, _, i + 1, ⟨w, t, e, q, s⟩ => ⟨w, t.set i v, by rw [e]; rfl, q, RepL.set r i s⟩
theorem RepL.dropLast {xs : List W} {us : List V} (r : RepL K T ω xs us) : RepL K T ω xs.dropLast us.dropLast := by
  rw [List.dropLast_eq_take, List.dropLast_eq_take, r.length]; exact r.take _
theorem RepL.eraseIdx : ∀ {xs : List W} {us : List V} (i : Nat), RepL K T ω xs us → RepL K T ω (xs.eraseIdx i) (us.eraseIdx i)
  | [], _, _, q => by rw [show _ = [] from q]; rfl
  | _ :: _, _, 0, ⟨w, t, e, _, s⟩ => by rw [e]; exact s
  | _ :: _, _, i + 1, ⟨w, t, e, q, s⟩ => ⟨w, t.eraseIdx i, by rw [e]; rfl, q, RepL.eraseIdx i s⟩

/-! ### the heap -/
theorem HRel.ρlt (r : HRel K T ω H h) {n : Nat} {a : Addr} (e : ω.ρ[n]? = some a) : n < h.length := by
  rw [← r.len]; exact (List.getElem?_eq_some_iff.mp e).1
theorem HRel.some_of (r : HRel K T ω H h) {n : Nat} {a : Addr} (e : ω.ρ[n]? = some a) : ∃ o, h[n]? = some o ∧ ORel K T ω o (H a) := by
  have hl := r.ρlt e
  exact ⟨h[n], List.getElem?_eq_getElem hl, r.at_ n _ a (List.getElem?_eq_getElem hl) e⟩
theorem ORel.isSome {o : AO} {u : Option HO} (q : ORel K T ω o u) : u.isSome = true := by
  cases o with
  | lst xs => obtain ⟨vs, e, _⟩ := q; rw [e]; rfl
  | ins c fs => obtain ⟨dx, gs, e, _⟩ := q; rw [e]; rfl
theorem HRel.nρ (r : HRel K T ω H h) {p : Addr} (hp : H p = none) : p ∉ ω.ρ := fun hm => by
  obtain ⟨n, hn, e⟩ := List.getElem_of_mem hm
  obtain ⟨o, _, q⟩ := r.some_of (n := n) (a := p) (by rw [List.getElem?_eq_getElem hn, e])
  have := q.isSome
  rw [hp] at this; cases this
theorem HRel.nF (r : HRel K T ω H h) {p : Addr} (hp : H p = none) : ω.F p = none := fresh_back r.fr hp
/-- a new thing that stands for good -/
def Wo.fz (ω : Wo) (p : Addr) (o : HO) : Wo := ⟨ω.ρ, upd ω.F p o, ω.G⟩
theorem HRel.leF (r : HRel K T ω H h) {p : Addr} (hp : H p = none) (o : HO) : ω.Le (ω.fz p o) := ⟨fun _ _ e => e, Ex.new (r.nF hp), rfl⟩
theorem HRel.fz (r : HRel K T ω H h) {p : Addr} (hp : H p = none) (o : HO) : HRel K T (ω.fz p o) (upd H p o) h where
  fr := fun a u e => by
    by_cases ha : a = p
    · subst ha
      have e' : upd ω.F a o a = some u := e
      rw [upd_same] at e' ⊢; exact e'
    · have e' : upd ω.F p o a = some u := e
      rw [upd_ne ha] at e' ⊢; exact r.fr a u e'
  len := r.len
  nd := r.nd
  off := fun a ha => by
    have ne : a ≠ p := fun z => r.nρ hp (z ▸ ha)
    show upd ω.F p o a = none
    rw [upd_ne ne]; exact r.off a ha
  gr := r.gr.trans (Ex.new hp)
  offG := fun a u e => by
    obtain ⟨h1, h2⟩ := r.offG a u e
    have ne : a ≠ p := ne_of_none (r.gr a u e) hp
    refine ⟨?_, h2⟩
    show upd ω.F p o a = none
    rw [upd_ne ne]; exact h1
  at_ := fun i u a hi ha => by
    have ne : a ≠ p := fun z => r.nρ hp (z ▸ List.mem_of_getElem? ha)
    rw [upd_ne ne]
    exact (r.at_ i u a hi ha).mono (r.leF hp o)
/-- a new object -/
def Wo.al (ω : Wo) (p : Addr) : Wo := ⟨ω.ρ ++ [p], ω.F, ω.G⟩
theorem Wo.leA (ω : Wo) (p : Addr) : ω.Le (ω.al p) := ⟨fun n q e => by
  show (ω.ρ ++ [p])[n]? = some q
  rw [List.getElem?_append_left (List.getElem?_eq_some_iff.mp e).1]; exact e, Ex.refl _, rfl⟩
theorem HRel.al (r : HRel K T ω H h) {p : Addr} (hp : H p = none) {o : HO} {b : AO} (q : ORel K T (ω.al p) b (some o)) : HRel K T (ω.al p) (upd H p o) (h ++ [b]) where
  fr := fun a u e => by
    rw [upd_ne (ne_of_none (r.fr a u e) hp)]; exact r.fr a u e
  len := by
    show (ω.ρ ++ [p]).length = _
    rw [List.length_append, List.length_append, r.len]; rfl
  nd := List.nodup_append.mpr ⟨r.nd, by simp, fun a ha b hb => by
    have : b = p := by simpa using hb
    subst this
    exact fun z => r.nρ hp (z ▸ ha)⟩
  off := fun a ha => by
    have ha' : a ∈ ω.ρ ++ [p] := ha
    rcases List.mem_append.mp ha' with z | z
    · exact r.off a z
    · have : a = p := by simpa using z
      subst this; exact r.nF hp
  gr := r.gr.trans (Ex.new hp)
  offG := fun a u e => by
    obtain ⟨h1, h2⟩ := r.offG a u e
    have ne : a ≠ p := ne_of_none (r.gr a u e) hp
    refine ⟨h1, fun hm => ?_⟩
    have hm' : a ∈ ω.ρ ++ [p] := hm
    rcases List.mem_append.mp hm' with z | z
    · exact h2 z
    · exact ne (by simpa using z)
  at_ := fun i u a hi ha => by
    have ha' : (ω.ρ ++ [p])[i]? = some a := ha
    by_cases hl : i < h.length
    · rw [List.getElem?_append_left hl] at hi
      rw [List.getElem?_append_left (by rw [r.len]; exact hl)] at ha'
      have ne : a ≠ p := fun z => r.nρ hp (z ▸ List.mem_of_getElem? ha')
      rw [upd_ne ne]
      exact (r.at_ i u a hi ha').mono (ω.leA p)
    · have hi0 : i = h.length := by
        have := (List.getElem?_eq_some_iff.mp hi).1
        rw [List.length_append] at this
        simp at this; omega
      subst hi0
      rw [List.getElem?_append_right (Nat.le_refl _)] at hi
      rw [List.getElem?_append_right (by rw [r.len]; exact Nat.le_refl _), r.len] at ha'
      simp at hi ha'
      subst hi; subst ha'
      rw [upd_same]; exact q
theorem HRel.alLoc (r : HRel K T ω H h) (p : Addr) : (ω.al p).ρ[h.length]? = some p := by
  show (ω.ρ ++ [p])[h.length]? = some p
  rw [← r.len, List.getElem?_append_right (Nat.le_refl _)]; simp
/-- an object changes -/
theorem HRel.wr (r : HRel K T ω H h) {n : Nat} {a : Addr} (e : ω.ρ[n]? = some a) {o : HO} {b : AO} (q : ORel K T ω b (some o)) : HRel K T ω (upd H a o) (h.set n b) where
  fr := fun c u ec => by
    have ne : c ≠ a := fun z => by
      have := r.off a (List.mem_of_getElem? e)
      rw [z, this] at ec; cases ec
    rw [upd_ne ne]; exact r.fr c u ec
  len := by rw [List.length_set]; exact r.len
  nd := r.nd
  off := r.off
  gr := fun b u eb => by
    have ne : b ≠ a := fun z => (r.offG b u eb).2 (z ▸ List.mem_of_getElem? e)
    rw [upd_ne ne]; exact r.gr b u eb
  offG := r.offG
  at_ := fun i u c hi hc => by
    by_cases hin : n = i
    · subst hin
      rw [hc] at e; cases e
      rw [List.getElem?_set_self (r.ρlt hc)] at hi
      cases hi
      rw [upd_same]; exact q
    · rw [List.getElem?_set_ne hin] at hi
      have ne : c ≠ a := fun z => by
        subst z
        have h1 := (List.getElem?_eq_some_iff.mp hc)
        have h2 := (List.getElem?_eq_some_iff.mp e)
        exact hin (((List.getElem_inj r.nd).mp (h1.2.trans h2.2.symm)).symm)
      rw [upd_ne ne]
      exact r.at_ i u c hi hc
end
end Dn
set_option Elab.async false
set_option linter.all false
set_option maxRecDepth 100000
set_option maxHeartbeats 2000000
namespace Dn
open PySem L2 Evl

/-- what comes of a statement -/
inductive S where
  | nx (σ : Ev) (h : AH) | rt (x : W) (h : AH) | bk (σ : Ev) (h : AH) | ct (σ : Ev) (h : AH) | ex (c : Nat) (fs : List (Nat × W)) (σ : Ev) (h : AH) | bad
abbrev SDen := Ev → AH → S

section
variable (K : PySem.W.Frag) (T : Tb)
/-- what is wanted of an exception -/
def XP (Wx : WX) (ω : Wo) (s : L2.St) (c : Nat) (fs : List (Nat × W)) (h' : AH) : Prop :=
  ∀ H' ω' d gs, ω.Le ω' → HRel K T ω' H' h' → ω'.F d = some (.xd gs) → FRel K T ω' fs gs → Wx (.ref (T.ca c)) (some d) s H'
def EP' (Wx : WX) (ω : Wo) (s : L2.St) (Q : VK) : R W → Prop
  | .ok x h' => ∀ v H' ω', ω.Le ω' → HRel K T ω' H' h' → Rep K T ω' x v → Q v H'
  | .ex c fs h' => XP K T Wx ω s c fs h'
  | .bad => False
def TP' (Wx : WX) (ω : Wo) (s : L2.St) (Q : Bool → Hp → Prop) : R Bool → Prop
  | .ok b h' => ∀ H' ω', ω.Le ω' → HRel K T ω' H' h' → Q b H'
  | .ex c fs h' => XP K T Wx ω s c fs h'
  | .bad => False
def AP' (Wx : WX) (ω : Wo) (s : L2.St) (Q : List V → Hp → Prop) : R (List W) → Prop
  | .ok xs h' => ∀ vs H' ω', ω.Le ω' → HRel K T ω' H' h' → RepL K T ω' xs vs → Q vs H'
  | .ex c fs h' => XP K T Wx ω s c fs h'
  | .bad => False
def tE (Wx : WX) (d : Den) : TE := fun s H Q => ∃ ω σ h, ERel K T ω σ s ∧ HRel K T ω H h ∧ EP' K T Wx ω s Q (d σ h)
def tT (Wx : WX) (d : Ev → AH → R Bool) : TT := fun s H Q => ∃ ω σ h, ERel K T ω σ s ∧ HRel K T ω H h ∧ TP' K T Wx ω s Q (d σ h)
def tA (Wx : WX) (d : Ev → AH → R (List W)) : TA := fun s H Q => ∃ ω σ h, ERel K T ω σ s ∧ HRel K T ω H h ∧ AP' K T Wx ω s Q (d σ h)
def SP' (Wx : WX) (D : Ends) (ω : Wo) : S → Prop
  | .nx σ' h' => ∀ s' H' ω', ω.Le ω' → HRel K T ω' H' h' → ERel K T ω' σ' s' → D.nx s' H'
  | .rt x h' => ∀ v H' ω', ω.Le ω' → HRel K T ω' H' h' → Rep K T ω' x v → D.rt v H'
  | .bk σ' h' => ∀ s' H' ω', ω.Le ω' → HRel K T ω' H' h' → ERel K T ω' σ' s' → D.bk s' H'
  | .ct σ' h' => ∀ s' H' ω', ω.Le ω' → HRel K T ω' H' h' → ERel K T ω' σ' s' → D.ct s' H'
  | .ex c fs σ' h' => ∀ s', ∀ ω', ω.Le ω' → ERel K T ω' σ' s' → XP K T Wx ω' s' c fs h'
  | .bad => False
def tS (Wx : WX) (d : SDen) : TS := fun D s H => ∃ ω σ h, ERel K T ω σ s ∧ HRel K T ω H h ∧ SP' K T Wx D ω (d σ h)
end

section
variable {K : PySem.W.Frag} {T : Tb} {Wx : WX} {ω ω' : Wo} {s : L2.St} {H : Hp} {h : AH} {D : Ends}
theorem XP.mono (l : ω.Le ω') {c : Nat} {fs : List (Nat × W)} {h' : AH} (p : XP K T Wx ω s c fs h') : XP K T Wx ω' s c fs h' :=
  fun H' ω2 d gs l2 => p H' ω2 d gs (l.trans l2)
theorem EP'.mono (l : ω.Le ω') {Q : VK} : ∀ {r : R W}, EP' K T Wx ω s Q r → EP' K T Wx ω' s Q r
  | .ok _ _, p => fun v H' ω2 l2 => p v H' ω2 (l.trans l2)
  | .ex _ _ _, p => XP.mono l p
theorem SP'.mono (l : ω.Le ω') : ∀ {r : S}, SP' K T Wx D ω r → SP' K T Wx D ω' r
  | .nx _ _, p => fun s' H' ω2 l2 => p s' H' ω2 (l.trans l2)
  | .rt _ _, p => fun v H' ω2 l2 => p v H' ω2 (l.trans l2)
  | .bk _ _, p => fun s' H' ω2 l2 => p s' H' ω2 (l.trans l2)
  | .ct _ _, p => fun s' H' ω2 l2 => p s' H' ω2 (l.trans l2)
  | .ex _ _ _ _, p => fun s' ω2 l2 => p s' ω2 (l.trans l2)

/-! ### from one reading to another -/
theorem pe_to {X : Cx} {e : Expr} {t t' : TE} (h : PE X e t) (m : ∀ s H Q, t' s H Q → t s H Q) : PE X e t' := ⟨fun pins s σ H Q I q => h.run pins s σ H Q I (m σ H Q q)⟩
theorem pt_to {X : Cx} {e : Expr} {t t' : TT} (h : PT X e t) (m : ∀ s H Q, t' s H Q → t s H Q) : PT X e t' := ⟨fun pins s σ H Q I q => h.run pins s σ H Q I (m σ H Q q)⟩
theorem pw_to {X : Cx} {e : Expr} {t t' : TT} (h : PW X e t) (m : ∀ s H Q, t' s H Q → t s H Q) : PW X e t' := ⟨fun wh pins s σ H Q I q => h.run wh pins s σ H Q I (m σ H Q q)⟩
theorem pa_to {X : Cx} {e : List Expr} {t t' : TA} (h : PA X e t) (m : ∀ s H Q, t' s H Q → t s H Q) : PA X e t' := ⟨fun pos pins s σ H Q I q => h.run pos pins s σ H Q I (m σ H Q q)⟩
theorem ps_to {X : Cx} {e : Stmt} {t t' : TS} (h : PS X e t) (m : ∀ D s H, t' D s H → t D s H) : PS X e t' := ⟨fun pins s σ H D I q => h.run pins s σ H D I (m D σ H q)⟩
theorem pss_to {X : Cx} {e : List Stmt} {t t' : TS} (h : PSs X e t) (m : ∀ D s H, t' D s H → t D s H) : PSs X e t' := ⟨fun pins s σ H D I q => h.run pins s σ H D I (m D σ H q)⟩

/-! ### sequencing -/
def R.andThen {α β : Type} (r : R α) (f : α → AH → R β) : R β :=
  match r with
  | .ok a h => f a h
  | .ex c fs h => .ex c fs h
  | .bad => .bad
/-- an expression, then what hangs on its value -/
theorem tE_then {d : Den} {Q : VK} {σ : Ev} (e : ERel K T ω σ s) (r : HRel K T ω H h) {β : Type} {k : W → AH → R β} {P : Wo → R β → Prop}
    (hx : ∀ c fs h', P ω (.ex c fs h') → XP K T Wx ω s c fs h') (hb : P ω .bad → False)
    (hk : ∀ x h1 v H1 ω1, ω.Le ω1 → HRel K T ω1 H1 h1 → Rep K T ω1 x v → P ω (k x h1) → Q v H1) (p : P ω ((d σ h).andThen k)) : tE K T Wx d s H Q := by
  refine ⟨ω, σ, h, e, r, ?_⟩
  cases q : d σ h with
  | ok x h1 =>
    rw [q] at p
    exact fun v H1 ω1 l r1 rx => hk x h1 v H1 ω1 l r1 rx p
  | ex c fs h1 =>
    rw [q] at p
    exact hx c fs h1 p
  | bad =>
    rw [q] at p
    exact (hb p).elim
theorem tT_then {d : Ev → AH → R Bool} {Q : Bool → Hp → Prop} {σ : Ev} (e : ERel K T ω σ s) (r : HRel K T ω H h) {β : Type} {k : Bool → AH → R β} {P : Wo → R β → Prop}
    (hx : ∀ c fs h', P ω (.ex c fs h') → XP K T Wx ω s c fs h') (hb : P ω .bad → False)
    (hk : ∀ x h1 H1 ω1, ω.Le ω1 → HRel K T ω1 H1 h1 → P ω (k x h1) → Q x H1) (p : P ω ((d σ h).andThen k)) : tT K T Wx d s H Q := by
  refine ⟨ω, σ, h, e, r, ?_⟩
  cases q : d σ h with
  | ok x h1 =>
    rw [q] at p
    exact fun H1 ω1 l r1 => hk x h1 H1 ω1 l r1 p
  | ex c fs h1 =>
    rw [q] at p
    exact hx c fs h1 p
  | bad =>
    rw [q] at p
    exact (hb p).elim
theorem tA_then {d : Ev → AH → R (List W)} {Q : List V → Hp → Prop} {σ : Ev} (e : ERel K T ω σ s) (r : HRel K T ω H h) {β : Type} {k : List W → AH → R β} {P : Wo → R β → Prop}
    (hx : ∀ c fs h', P ω (.ex c fs h') → XP K T Wx ω s c fs h') (hb : P ω .bad → False)
    (hk : ∀ x h1 v H1 ω1, ω.Le ω1 → HRel K T ω1 H1 h1 → RepL K T ω1 x v → P ω (k x h1) → Q v H1) (p : P ω ((d σ h).andThen k)) : tA K T Wx d s H Q := by
  refine ⟨ω, σ, h, e, r, ?_⟩
  cases q : d σ h with
  | ok x h1 =>
    rw [q] at p
    exact fun v H1 ω1 l r1 rx => hk x h1 v H1 ω1 l r1 rx p
  | ex c fs h1 =>
    rw [q] at p
    exact hx c fs h1 p
  | bad =>
    rw [q] at p
    exact (hb p).elim

/-! ### names, constants -/
def dVar (i : Nat) : Den := fun σ h => match σ[i]? with
  | some (some x) => .ok x h
  | _ => .bad
def dCst (x : W) : Den := fun _ h => .ok x h
theorem s_var {X : Cx} {e : Expr} {i : Nat} (h : PE X e (tVar i)) : PE X e (tE X.K T Wx (dVar i)) := pe_to h fun s H Q q => by
  obtain ⟨ω, σ, h, e, r, p⟩ := q
  unfold dVar at p
  split at p
  · rename_i x hx
    obtain ⟨v, hv, rx⟩ := e.2 i x hx
    exact ⟨v, hv, p v H ω (Wo.Le.refl _) r rx⟩
  · exact p.elim
theorem s_cst {X : Cx} {e : Expr} {x : W} {v : V} (h : PE X e (tC v)) (rx : ∀ ω, Rep X.K T ω x v) : PE X e (tE X.K T Wx (dCst x)) := pe_to h fun s H Q q => by
  obtain ⟨ω, σ, h, e, r, p⟩ := q
  exact p v H ω (Wo.Le.refl _) r (rx ω)

/-! ### operators on values, that leave the heap -/
/-- the reading r is served by the function f -/
abbrev Fo := Option (W × AH)
/-- what follows an operation -/
def After (K : PySem.W.Frag) (T : Tb) (ω : Wo) (Q : VK) (z : W) (h' : AH) : Prop := ∀ w H' ω', ω.Le ω' → HRel K T ω' H' h' → Rep K T ω' z w → Q w H'
def OpS (K : PySem.W.Frag) (T : Tb) (r : R2) (f : W → W → AH → Fo) : Prop :=
  ∀ (ω : Wo) (H : Hp) (h h' : AH) (x y z : W) (u v : V) (Q : VK), HRel K T ω H h → Rep K T ω x u → Rep K T ω y v → f x y h = some (z, h') → After K T ω Q z h' → r u v H Q
def R.opt (o : Fo) : R W := match o with
  | some (z, h) => .ok z h
  | none => .bad
def dOp (f : W → W → AH → Fo) (a b : Den) : Den := fun σ h => (a σ h).andThen fun x h1 => (b σ h1).andThen fun y h2 => .opt (f x y h2)
theorem tE_op {r : R2} {f : W → W → AH → Fo} {da db : Den} (hf : OpS K T r f) {Q : VK} (q : tE K T Wx (dOp f da db) s H Q) : tOp r (tE K T Wx da) (tE K T Wx db) s H Q := by
  obtain ⟨ω, σ, h, e, rr, p⟩ := q
  refine tE_then (P := fun ω r => EP' K T Wx ω s Q r) e rr (fun _ _ _ z => z) (fun z => z) (fun x h1 u H1 ω1 l1 r1 rx p1 => ?_) p
  refine tE_then (P := fun ω r => EP' K T Wx ω s Q r) (e.mono l1) r1 (fun _ _ _ z => z) (fun z => z) (fun y h2 v H2 ω2 l2 r2 ry p2 => ?_) (p1.mono l1)
  unfold R.opt at p2
  split at p2
  · rename_i z h3 hz
    exact hf ω2 H2 h2 h3 x y z u v Q r2 (rx.mono l2) ry hz fun w H' ω' l' r' rw' => p2 w H' ω' (l2.trans l') r' rw'
  · exact p2.elim
/-- one place -/
def UnS (K : PySem.W.Frag) (T : Tb) (r : V → Hp → VK → Prop) (f : W → AH → Fo) : Prop :=
  ∀ (ω : Wo) (H : Hp) (h h' : AH) (x z : W) (u : V) (Q : VK), HRel K T ω H h → Rep K T ω x u → f x h = some (z, h') → After K T ω Q z h' → r u H Q
def dUn (f : W → AH → Fo) (a : Den) : Den := fun σ h => (a σ h).andThen fun x h1 => .opt (f x h1)
theorem tE_un {r : V → Hp → VK → Prop} {f : W → AH → Fo} {da : Den} (hf : UnS K T r f) {Q : VK} (q : tE K T Wx (dUn f da) s H Q) : tUn r (tE K T Wx da) s H Q := by
  obtain ⟨ω, σ, h, e, rr, p⟩ := q
  refine tE_then (P := fun ω r => EP' K T Wx ω s Q r) e rr (fun _ _ _ z => z) (fun z => z) (fun x h1 u H1 ω1 l1 r1 rx p1 => ?_) p
  unfold R.opt at p1
  split at p1
  · rename_i z h3 hz
    exact hf ω1 H1 h1 h3 x z u Q r1 rx hz fun w H' ω' l' r' rw' => p1 w H' ω' (l1.trans l') r' rw'
  · exact p1.elim
/-- a call of values -/
def ClS (K : PySem.W.Frag) (T : Tb) (r : List V → Hp → VK → Prop) (f : List W → AH → Fo) : Prop :=
  ∀ (ω : Wo) (H : Hp) (h h' : AH) (xs : List W) (z : W) (us : List V) (Q : VK), HRel K T ω H h → RepL K T ω xs us → f xs h = some (z, h') → After K T ω Q z h' → r us H Q
def dCl (f : List W → AH → Fo) (a : Ev → AH → R (List W)) : Den := fun σ h => (a σ h).andThen fun xs h1 => .opt (f xs h1)
theorem tE_cl {r : List V → Hp → VK → Prop} {f : List W → AH → Fo} {da : Ev → AH → R (List W)} (hf : ClS K T r f) {Q : VK} (q : tE K T Wx (dCl f da) s H Q) : tCB r (tA K T Wx da) s H Q := by
  obtain ⟨ω, σ, h, e, rr, p⟩ := q
  refine tA_then (P := fun ω r => EP' K T Wx ω s Q r) e rr (fun _ _ _ z => z) (fun z => z) (fun x h1 u H1 ω1 l1 r1 rx p1 => ?_) p
  unfold R.opt at p1
  split at p1
  · rename_i z h3 hz
    exact hf ω1 H1 h1 h3 x z u Q r1 rx hz fun w H' ω' l' r' rw' => p1 w H' ω' (l1.trans l') r' rw'
  · exact p1.elim
/-- a method of a built-in class: the object, the arguments -/
def MtS (K : PySem.W.Frag) (T : Tb) (ty : String) (r : V → List V → Hp → VK → Prop) (f : W → List W → AH → Fo) : Prop :=
  ∀ (ω : Wo) (H : Hp) (h h' : AH) (x : W) (xs : List W) (z : W) (u : V) (us : List V) (Q : VK), HRel K T ω H h → Rep K T ω x u → RepL K T ω xs us → f x xs h = some (z, h') → After K T ω Q z h' → r u us H Q
/-- arguments -/
def dNil : Ev → AH → R (List W) := fun _ h => .ok [] h
def dCons (a : Den) (b : Ev → AH → R (List W)) : Ev → AH → R (List W) := fun σ h => (a σ h).andThen fun x h1 => (b σ h1).andThen fun xs h2 => .ok (x :: xs) h2
theorem tA_nil {Q : List V → Hp → Prop} (q : tA K T Wx dNil s H Q) : tNil s H Q := by
  obtain ⟨ω, σ, h, e, rr, p⟩ := q
  exact p [] H ω (Wo.Le.refl _) rr rfl
theorem tA_cons {da : Den} {db : Ev → AH → R (List W)} {Q : List V → Hp → Prop} (q : tA K T Wx (dCons da db) s H Q) : tCons (tE K T Wx da) (tA K T Wx db) s H Q := by
  obtain ⟨ω, σ, h, e, rr, p⟩ := q
  refine tE_then (P := fun ω r => AP' K T Wx ω s Q r) e rr (fun _ _ _ z => z) (fun z => z) (fun x h1 u H1 ω1 l1 r1 rx p1 => ?_) p
  have p1' : AP' K T Wx ω1 s Q ((db σ h1).andThen fun xs h2 => .ok (x :: xs) h2) := by
    cases q : db σ h1 with
    | ok xs h2 => rw [q] at p1; exact fun v H' ω2 l2 => p1 v H' ω2 (l1.trans l2)
    | ex c fs h2 => rw [q] at p1; exact XP.mono l1 p1
    | bad => rw [q] at p1; exact p1
  refine tA_then (P := fun ω r => AP' K T Wx ω s Q r) (e.mono l1) r1 (fun _ _ _ z => z) (fun z => z) (fun y h2 v H2 ω2 l2 r2 ry p2 => ?_) p1'
  exact p2 (u :: v) H2 ω2 l2 r2 ⟨u, v, rfl, rx.mono l2, ry⟩
end
end Dn
set_option Elab.async false
set_option linter.all false
set_option maxRecDepth 100000
set_option maxHeartbeats 2000000
namespace Dn
open PySem L2 Evl PyProof.Rows PySem.SeqAt PySem.MeetsSeq

/-! ### parts of values -/
def lstOf (h : AH) : W → Option (List W)
  | .lst xs => some xs
  | .loc n => match h[n]? with
    | some (.lst xs) => some xs
    | _ => none
  | _ => none
def tupOf : W → Option (List W)
  | .tup xs => some xs
  | _ => none
def seqOf (h : AH) : W → Option (List W)
  | .tup xs => some xs
  | x => lstOf h x
def ret (z : W) (h : AH) : Fo := some (z, h)
/-- a new list: one that stays as it is, or an object -/
def newL (m : Bool) (zs : List W) (h : AH) : Fo := if m then some (.loc h.length, h ++ [.lst zs]) else some (.lst zs, h)
section
variable {K : PySem.W.Frag} {T : Tb} {ω ω' : Wo} {H H' : Hp} {h h' : AH}
theorem After.pure {Q : VK} {z : W} (a : After K T ω Q z h) (r : HRel K T ω H h) {v : V} (rz : Rep K T ω z v) : Q v H := a v H ω (Wo.Le.refl _) r rz
theorem lst_at (r : HRel K T ω H h) {x : W} {u : V} {xs : List W} (rx : Rep K T ω x u) (e : lstOf h x = some xs) : ∃ a vs, u = .ref a ∧ SqL K H a vs ∧ xs.length ≤ sizeLine ∧ RepL K T ω xs vs := by
  cases x with
  | lst ys =>
    obtain ⟨a, vs, e1, s1, z, r1⟩ := rx
    have : ys = xs := Option.some.inj e
    subst this
    exact ⟨a, vs, e1, ex_l r.fr s1, z, r1⟩
  | loc n =>
    obtain ⟨a, e1, e2⟩ := rx
    obtain ⟨o, ho, q⟩ := r.some_of e2
    unfold lstOf at e
    simp only [ho] at e
    cases o with
    | lst ys =>
      have : ys = xs := Option.some.inj e
      subst this
      obtain ⟨vs, e3, z, r1⟩ := q
      exact ⟨a, vs, e1, sq_of e3, z, r1⟩
    | ins _ _ => cases e
  | _ => cases e
theorem tup_at (r : HRel K T ω H h) {x : W} {u : V} {xs : List W} (rx : Rep K T ω x u) (e : tupOf x = some xs) : ∃ a vs, u = .ref a ∧ SqT K H a vs ∧ xs.length ≤ sizeLine ∧ RepL K T ω xs vs := by
  cases x with
  | tup ys =>
    obtain ⟨a, vs, e1, s1, z, r1⟩ := rx
    have : ys = xs := Option.some.inj e
    subst this
    exact ⟨a, vs, e1, ex_t r.fr s1, z, r1⟩
  | _ => cases e
theorem seq_at (r : HRel K T ω H h) {x : W} {u : V} {xs : List W} (rx : Rep K T ω x u) (e : seqOf h x = some xs) : ∃ a vs, u = .ref a ∧ (SqL K H a vs ∨ SqT K H a vs) ∧ xs.length ≤ sizeLine ∧ RepL K T ω xs vs := by
  cases x with
  | tup ys =>
    obtain ⟨a, vs, e1, s1, z, r1⟩ := tup_at (x := .tup ys) r rx e
    exact ⟨a, vs, e1, .inr s1, z, r1⟩
  | lst ys =>
    obtain ⟨a, vs, e1, s1, z, r1⟩ := lst_at (x := .lst ys) r rx e
    exact ⟨a, vs, e1, .inl s1, z, r1⟩
  | loc n =>
    obtain ⟨a, vs, e1, s1, z, r1⟩ := lst_at (x := .loc n) r rx e
    exact ⟨a, vs, e1, .inl s1, z, r1⟩
  | _ => cases e
/-- a new list is made -/
theorem newL_ok (r : HRel K T ω H h) {m : Bool} {zs : List W} {vs : List V} {z : W} {Q : VK} (rv : RepL K T ω zs vs) (hz : zs.length ≤ sizeLine) (e : newL m zs h = some (z, h')) (a : After K T ω Q z h') : ∀ p, H p = none → Q (.ref p) (upd H p (.lst vs)) := by
  intro p hp
  unfold newL at e
  split at e
  · obtain ⟨rfl, rfl⟩ := Prod.mk.inj (Option.some.inj e)
    exact a (.ref p) _ (ω.al p) (ω.leA p) (r.al hp ⟨vs, rfl, hz, rv.mono (ω.leA p)⟩) ⟨p, rfl, r.alLoc p⟩
  · obtain ⟨rfl, rfl⟩ := Prod.mk.inj (Option.some.inj e)
    refine a (.ref p) _ (ω.fz p (.lst vs)) (r.leF hp _) (r.fz hp _) ⟨p, vs, rfl, sq_of upd_same, hz, rv.mono (r.leF hp _)⟩
theorem newT_ok (r : HRel K T ω H h) {zs : List W} {vs : List V} {Q : VK} (rv : RepL K T ω zs vs) (hz : zs.length ≤ sizeLine) (a : After K T ω Q (.tup zs) h) : ∀ p, H p = none → Q (.ref p) (upd H p (.tup vs)) := by
  intro p hp
  exact a (.ref p) _ (ω.fz p (.tup vs)) (r.leF hp _) (r.fz hp _) ⟨p, vs, rfl, SqT.of upd_same, hz, rv.mono (r.leF hp _)⟩

/-! ### whole numbers -/
def opI (g : Int → Int → W) : W → W → AH → Fo
  | .int i, .int j, h => ret (g i j) h
  | _, _, _ => none
def opIc (c : Int → Int → Bool) (g : Int → Int → W) : W → W → AH → Fo
  | .int i, .int j, h => if c i j = true then ret (g i j) h else none
  | _, _, _ => none
theorem S_I {g : Int → Int → W} {gv : Int → Int → V} (hg : ∀ ω i j, Rep K T ω (g i j) (gv i j)) : OpS K T (rI0 gv) (opI g) := by
  intro ω H h h' x y z u v Q r rx ry e a
  unfold opI at e
  split at e
  · obtain ⟨rfl, rfl⟩ := Prod.mk.inj (Option.some.inj e)
    obtain rfl : u = _ := rx
    obtain rfl : v = _ := ry
    exact ⟨_, _, rfl, rfl, a.pure r (hg ω _ _)⟩
  · cases e
theorem S_Ic {C : Int → Int → Prop} {c : Int → Int → Bool} {g : Int → Int → W} {gv : Int → Int → V} (hc : ∀ i j, c i j = true → C i j) (hg : ∀ ω i j, Rep K T ω (g i j) (gv i j)) : OpS K T (rI C gv) (opIc c g) := by
  intro ω H h h' x y z u v Q r rx ry e a
  unfold opIc at e
  split at e
  · split at e
    · rename_i hcc
      obtain ⟨rfl, rfl⟩ := Prod.mk.inj (Option.some.inj e)
      obtain rfl : u = _ := rx
      obtain rfl : v = _ := ry
      exact ⟨_, _, rfl, rfl, hc _ _ hcc, a.pure r (hg ω _ _)⟩
    · cases e
  · cases e
theorem OpS.or1 {r r' : R2} {f : W → W → AH → Fo} (s : OpS K T r f) : OpS K T (fun x y H Q => r x y H Q ∨ r' x y H Q) f := fun ω H h h' x y z u v Q hr rx ry e a => .inl (s ω H h h' x y z u v Q hr rx ry e a)
theorem OpS.or2 {r r' : R2} {f : W → W → AH → Fo} (s : OpS K T r' f) : OpS K T (fun x y H Q => r x y H Q ∨ r' x y H Q) f := fun ω H h h' x y z u v Q hr rx ry e a => .inr (s ω H h h' x y z u v Q hr rx ry e a)
/-- one function, then another -/
def orF (f g : W → W → AH → Fo) : W → W → AH → Fo := fun x y h => match f x y h with
  | some r => some r
  | none => g x y h
theorem OpS.orF {r r' : R2} {f g : W → W → AH → Fo} (s : OpS K T r f) (t : OpS K T r' g) : OpS K T (fun x y H Q => r x y H Q ∨ r' x y H Q) (orF f g) := fun ω H h h' x y z u v Q hr rx ry e a => by
  unfold Dn.orF at e
  split at e
  · rename_i q hq
    have : q = (z, h') := Option.some.inj e
    subst this
    exact .inl (s ω H h h' x y z u v Q hr rx ry hq a)
  · exact .inr (t ω H h h' x y z u v Q hr rx ry e a)

/-! ### texts, tuples, lists put together -/
theorem sOf_app (a b : List Nat) : sOf a ++ sOf b = sOf (a ++ b) := by
  show Str.append (sOf a) (sOf b) = sOf (a ++ b)
  unfold Str.append sOf
  simp
theorem sOf_len (a : List Nat) : (sOf a).length = a.length := by unfold sOf Str.length; simp
theorem sOk_app {a b : List Nat} (ha : sOk a = true) (hb : sOk b = true) : sOk (a ++ b) = true := by unfold sOk at *; rw [List.all_append, ha, hb]; rfl
def catS : W → W → AH → Fo
  | .str a, .str b, h => if a.length + b.length ≤ sizeLine then ret (.str (a ++ b)) h else none
  | _, _, _ => none
def rCatS : R2 := fun x y H Q => ∃ i j, x = .str i ∧ y = .str j ∧ i.length + j.length ≤ sizeLine ∧ Q (.str (i ++ j)) H
theorem S_catS : OpS K T rCatS catS := by
  intro ω H h h' x y z u v Q r rx ry e a
  unfold catS at e
  split at e
  · split at e
    · rename_i hl
      obtain ⟨rfl, rfl⟩ := Prod.mk.inj (Option.some.inj e)
      obtain ⟨rfl, h1, h2⟩ := rx
      obtain ⟨rfl, h3, h4⟩ := ry
      exact ⟨_, _, rfl, rfl, by rw [sOf_len, sOf_len]; exact hl, a.pure r ⟨by rw [sOf_app], by rw [List.length_append]; exact hl, sOk_app h2 h4⟩⟩
    · cases e
  · cases e
def catT : W → W → AH → Fo
  | .tup a, .tup b, h => if a.length + b.length ≤ sizeLine then ret (.tup (a ++ b)) h else none
  | _, _, _ => none
theorem S_catT : OpS K T (rCatA K) catT := by
  intro ω H h h' x y z u v Q r rx ry e a
  unfold catT at e
  split at e
  · split at e
    · rename_i xs ys hl
      obtain ⟨rfl, rfl⟩ := Prod.mk.inj (Option.some.inj e)
      obtain ⟨p, vs, rfl, s1, z1, r1⟩ := tup_at (x := .tup xs) r rx rfl
      obtain ⟨q, ws, rfl, s2, z2, r2⟩ := tup_at (x := .tup ys) r ry rfl
      refine ⟨p, q, vs, ws, rfl, rfl, s1, s2, by rw [r1.length, r2.length]; exact hl, fun e0 => ?_, fun _ e0 => ?_, fun _ _ => newT_ok r (r1.append r2) (by rw [List.length_append]; exact hl) a⟩
      · have : xs = [] := by
          have := r1.length; rw [e0] at this; exact List.eq_nil_of_length_eq_zero this.symm
        subst this
        exact a.pure r ry
      · have : ys = [] := by
          have := r2.length; rw [e0] at this; exact List.eq_nil_of_length_eq_zero this.symm
        subst this
        refine a.pure r ?_
        rw [List.append_nil]; exact rx
    · cases e
  · cases e
/-- two lists, whatever they are -/
def rCatL (K : PySem.W.Frag) : R2 := fun x y H Q => ∃ l b xs zs, x = .ref l ∧ y = .ref b ∧ SqL K H l xs ∧ SqL K H b zs ∧ xs.length + zs.length ≤ sizeLine ∧ ∀ p, H p = none → Q (.ref p) (upd H p (.lst (xs ++ zs)))
theorem op_catL {X : Cx} : OpR X (binaryOp .Add) (rCatL X.K) := by
  intro pins s σ H x y v u Q I rx ry hh
  obtain ⟨l, b, xs, zs, rfl, rfl, hH, hB, hz, q⟩ := hh
  cases rx
  cases ry
  obtain ⟨its, r, ⟨⟨c1, d1, k1, l1⟩, n1, g1, a1, a2, a3⟩, z⟩ := I.list hH
  obtain ⟨its2, r2, ⟨⟨c2, d2, k2, l2⟩, n2, g2, b1, b2, b3⟩, z2⟩ := I.list hB
  dsimp only at a1 a2 a3 b1 b2 b3
  subst a1 a2 a3 b1 b2 b3
  have len1 := r.length
  have len2 := r2.length
  have both : its.toArray ++ its2.toArray = (its ++ its2).toArray := by simp
  have fits : its.toArray.size + its2.toArray.size ≤ sizeLine := by rw [List.size_toArray, List.size_toArray]; omega
  refine concat_meets ⟨_, g1, rfl⟩ ⟨_, g2, rfl⟩ noFill_list_add seq_list_add PySem.F.slot_list_add PySem.F.entry_list_add
    (PySem.F.args_list_add_2 _ _) (list_addW l b its.toArray its2.toArray n1 n2 none none l1 l2 fits) ⟨g1, g2, ?_⟩
  rw [both]
  exact ⟨.ref _, _, I.lnew (t' := s.toks) (r.append r2) (by rw [List.length_append]; exact hz), rfl, q _ I.fresh⟩
def catL (m : Bool) : W → W → AH → Fo := fun x y h => match lstOf h x, lstOf h y with
  | some a, some b => if a.length + b.length ≤ sizeLine then newL m (a ++ b) h else none
  | _, _ => none
theorem S_catL {m : Bool} : OpS K T (rCatL K) (catL m) := by
  intro ω H h h' x y z u v Q r rx ry e a
  unfold catL at e
  split at e
  · rename_i xs ys e1 e2
    split at e
    · rename_i hl
      obtain ⟨p, vs, rfl, s1, z1, r1⟩ := lst_at r rx e1
      obtain ⟨q, ws, rfl, s2, z2, r2⟩ := lst_at r ry e2
      exact ⟨p, q, vs, ws, rfl, rfl, s1, s2, by rw [r1.length, r2.length]; exact hl, newL_ok r (r1.append r2) (by rw [List.length_append]; exact hl) e a⟩
    · cases e
  · cases e
end
end Dn
set_option Elab.async false
set_option linter.all false
set_option maxRecDepth 100000
set_option maxHeartbeats 2000000
namespace Dn
open PySem L2 Evl

/-! ### data -/
/-- plain data, not deeper than k -/
def okD : Nat → W → Bool
  | _, .non => true
  | _, .bl _ => true
  | _, .int _ => true
  | _, .str _ => true
  | k + 1, .tup xs => xs.all (okD k)
  | k + 1, .lst xs => xs.all (okD k)
  | _, _ => false
def toD : Nat → W → PyData
  | _, .non => .none
  | _, .bl b => .bool b
  | _, .int i => .int i
  | _, .str s => .str (sOf s)
  | k + 1, .tup xs => .tuple (xs.map (toD k))
  | k + 1, .lst xs => .list (xs.map (toD k))
  | _, _ => .none
def eqL (f : W → W → Bool) : List W → List W → Bool
  | [], [] => true
  | x :: xs, y :: ys => f x y && eqL f xs ys
  | _, _ => false
/-- == of data -/
def eqW : Nat → W → W → Bool
  | _, .non, .non => true
  | _, .bl a, .bl b => a == b
  | _, .bl a, .int j => (if a then 1 else 0) == j
  | _, .int i, .bl b => i == (if b then 1 else 0)
  | _, .int i, .int j => i == j
  | _, .str a, .str b => a == b
  | k + 1, .tup xs, .tup ys => eqL (eqW k) xs ys
  | k + 1, .lst xs, .lst ys => eqL (eqW k) xs ys
  | _, _, _ => false
theorem sOf_beq (a b : List Nat) : (sOf a == sOf b) = (a == b) := by
  unfold sOf
  by_cases h : a = b
  · subst h; simp
  · have h2 : ¬ (⟨a.toArray⟩ : Str) = ⟨b.toArray⟩ := fun q => h (by
      have := congrArg (fun z : Str => z.cps.toList) q
      simpa using this)
    rw [beq_eq_false_iff_ne.mpr h, beq_eq_false_iff_ne.mpr h2]
theorem eqL_all {f : W → W → Bool} {g : PyData → PyData → Bool} {t : W → PyData} {p : W → Bool} (hg : ∀ x y, p x = true → p y = true → PyData.eqv (t x) (t y) = f x y) : ∀ xs ys : List W, xs.all p = true → ys.all p = true → PyData.eqvAll (xs.map t) (ys.map t) = eqL f xs ys
  | [], [], _, _ => rfl
  | [], _ :: _, _, _ => by rw [List.map_nil, List.map_cons, PyData.eqvAll]; rfl
  | _ :: _, [], _, _ => by rw [List.map_nil, List.map_cons, PyData.eqvAll]; rfl
  | x :: xs, y :: ys, h1, h2 => by
    rw [List.all_cons, Bool.and_eq_true] at h1 h2
    rw [List.map_cons, List.map_cons, PyData.eqvAll, hg x y h1.1 h2.1, eqL_all (g := g) hg xs ys h1.2 h2.2]
    rfl
theorem eqv_toD : ∀ (k : Nat) (x y : W), okD k x = true → okD k y = true → PyData.eqv (toD k x) (toD k y) = eqW k x y := by
  intro k
  induction k with
  | zero =>
    intro x y hx hy
    cases x <;> cases y <;> first
      | (simp only [okD] at hx hy; done)
      | (simp only [okD, reduceCtorEq, Bool.false_eq_true] at hx; done)
      | (simp only [okD, reduceCtorEq, Bool.false_eq_true] at hy; done)
      | (simp only [toD, eqW, PyData.eqv, sOf_beq])
  | succ k ih =>
    intro x y hx hy
    cases x <;> cases y <;> first
      | (simp only [okD, reduceCtorEq, Bool.false_eq_true] at hx; done)
      | (simp only [okD, reduceCtorEq, Bool.false_eq_true] at hy; done)
      | (simp only [toD, eqW, PyData.eqv, sOf_beq]; done)
      | (simp only [toD, eqW, PyData.eqv]
         exact eqL_all (g := PyData.eqv) ih _ _ hx hy)
theorem eqL_refl {f : W → W → Bool} {p : W → Bool} (h : ∀ x, p x = true → f x x = true) : ∀ xs : List W, xs.all p = true → eqL f xs xs = true
  | [], _ => rfl
  | x :: xs, q => by
    rw [List.all_cons, Bool.and_eq_true] at q
    show (f x x && eqL f xs xs) = true
    rw [h x q.1, eqL_refl h xs q.2]; rfl
theorem eqW_refl : ∀ (k : Nat) (x : W), okD k x = true → eqW k x x = true := by
  intro k
  induction k with
  | zero => intro x h; cases x <;> first | (simp only [okD, reduceCtorEq, Bool.false_eq_true] at h; done) | simp [eqW]
  | succ k ih =>
    intro x h
    cases x <;> first
      | (simp only [okD, reduceCtorEq, Bool.false_eq_true] at h; done)
      | (simp [eqW]; done)
      | exact eqL_refl ih _ h
theorem okD_mono : ∀ (k : Nat) (x : W), okD k x = true → okD (k + 1) x = true := by
  intro k
  induction k with
  | zero => intro x h; cases x <;> first | rfl | (simp only [okD, reduceCtorEq, Bool.false_eq_true] at h; done)
  | succ k ih =>
    intro x h
    cases x <;> first
      | rfl
      | (simp only [okD, reduceCtorEq, Bool.false_eq_true] at h; done)
      | (simp only [okD, List.all_eq_true] at h ⊢; exact fun y hy => ih y (h y hy))
theorem toD_up : ∀ (k : Nat) (x : W), okD k x = true → toD k x = toD (k + 1) x := by
  intro k
  induction k with
  | zero => intro x h; cases x <;> first | rfl | (simp only [okD, reduceCtorEq, Bool.false_eq_true] at h; done)
  | succ k ih =>
    intro x h
    cases x <;> first
      | rfl
      | (simp only [okD, reduceCtorEq, Bool.false_eq_true] at h; done)
      | (simp only [okD, List.all_eq_true] at h
         simp only [toD]
         congr 1
         exact List.map_congr_left fun y hy => ih y (h y hy))

section
variable {K : PySem.W.Frag} {T : Tb} {ω ω' : Wo} {H H' : Hp} {h h' : AH}
/-- the items of a list that is an object -/
def vw (h : AH) : W → W
  | .loc n => match h[n]? with
    | some (.lst xs) => .lst xs
    | _ => .loc n
  | x => x
mutual
theorem canLay_all (k : Nat) (ih : ∀ (x : W) (v : V), Rep K T ω x v → okD k x = true → Dp K ω.F v (toD k x) ∧ (toD k x).canLay0 = true ∧ (toD k x).depth ≤ k) : ∀ (xs : List W) (vs : List V), RepL K T ω xs vs → xs.all (okD k) = true → DpAll K ω.F vs (xs.map (toD k)) ∧ PyData.canLayAll0 (xs.map (toD k)) = true ∧ PyData.depthAll (xs.map (toD k)) ≤ k
  | [], _, r, _ => by rw [show _ = [] from r]; exact ⟨.nil, rfl, Nat.zero_le _⟩
  | x :: xs, _, ⟨v, t, e, r, s⟩, q => by
    rw [List.all_cons, Bool.and_eq_true] at q
    obtain ⟨a1, a2, a3⟩ := ih x v r q.1
    obtain ⟨b1, b2, b3⟩ := canLay_all k ih xs t s q.2
    subst e
    refine ⟨.cons a1 b1, ?_, ?_⟩
    · rw [List.map_cons, PyData.canLayAll0, a2, b2]; rfl
    · rw [List.map_cons, PyData.depthAll]; exact Nat.max_le.mpr ⟨a3, b3⟩
end
theorem rep_D : ∀ (k : Nat) (x : W) (v : V), Rep K T ω x v → okD k x = true → Dp K ω.F v (toD k x) ∧ (toD k x).canLay0 = true ∧ (toD k x).depth ≤ k := by
  intro k
  induction k with
  | zero =>
    intro x v r q
    cases x with
    | non => obtain rfl : v = _ := r; exact ⟨.non, rfl, Nat.le_refl _⟩
    | bl b => obtain rfl : v = _ := r; exact ⟨.bl b, rfl, Nat.le_refl _⟩
    | int i => obtain rfl : v = _ := r; exact ⟨.int i, rfl, Nat.le_refl _⟩
    | str s =>
      obtain ⟨rfl, h1, h2⟩ := r
      refine ⟨.str _, ?_, Nat.le_refl _⟩
      show PyData.strOk (sOf s) = true
      unfold PyData.strOk sOf
      unfold sOk at h2
      simpa using h2
    | _ => simp only [okD, reduceCtorEq, Bool.false_eq_true] at q
  | succ k ih =>
    intro x v r q
    cases x with
    | non => obtain rfl : v = _ := r; exact ⟨.non, rfl, Nat.zero_le _⟩
    | bl b => obtain rfl : v = _ := r; exact ⟨.bl b, rfl, Nat.zero_le _⟩
    | int i => obtain rfl : v = _ := r; exact ⟨.int i, rfl, Nat.zero_le _⟩
    | str s =>
      obtain ⟨rfl, h1, h2⟩ := r
      refine ⟨.str _, ?_, Nat.zero_le _⟩
      show PyData.strOk (sOf s) = true
      unfold PyData.strOk sOf
      unfold sOk at h2
      simpa using h2
    | tup xs =>
      obtain ⟨a, vs, rfl, s1, z, r1⟩ := r
      obtain ⟨b1, b2, b3⟩ := canLay_all k ih xs vs r1 q
      exact ⟨.tup s1 b1, b2, Nat.succ_le_succ b3⟩
    | lst xs =>
      obtain ⟨a, vs, rfl, s1, z, r1⟩ := r
      obtain ⟨b1, b2, b3⟩ := canLay_all k ih xs vs r1 q
      exact ⟨.lst s1 b1, b2, Nat.succ_le_succ b3⟩
    | _ => simp only [okD, reduceCtorEq, Bool.false_eq_true] at q
mutual
theorem dp_mono (e : Ex H H') : ∀ {v : V} {d : PyData}, Dp K H v d → Dp K H' v d
  | _, _, .non => .non
  | _, _, .bl b => .bl b
  | _, _, .int b => .int b
  | _, _, .str b => .str b
  | _, _, .lst s a => .lst (ex_l e s) (dpAll_mono e a)
  | _, _, .tup s a => .tup (ex_t e s) (dpAll_mono e a)
theorem dpAll_mono (e : Ex H H') : ∀ {v : List V} {d : List PyData}, DpAll K H v d → DpAll K H' v d
  | _, _, .nil => .nil
  | _, _, .cons a b => .cons (dp_mono e a) (dpAll_mono e b)
end
/-- a value or a list that is an object, as data -/
theorem data_at (r : HRel K T ω H h) {k : Nat} {x : W} {u : V} (rx : Rep K T ω x u) (q : okD (k + 1) (vw h x) = true) : Dp K H u (toD (k + 1) (vw h x)) ∧ (toD (k + 1) (vw h x)).canLay0 = true ∧ (toD (k + 1) (vw h x)).depth ≤ k + 1 := by
  by_cases hl : ∃ n, x = .loc n
  · obtain ⟨n, rfl⟩ := hl
    unfold vw at q ⊢
    dsimp only at q ⊢
    split at q
    · rename_i xs hx
      obtain ⟨a, vs, rfl, s1, z, r1⟩ := lst_at (x := .loc n) (xs := xs) r rx (by simp only [lstOf, hx])
      simp only [hx] at *
      obtain ⟨b1, b2, b3⟩ := canLay_all k (fun x v => rep_D k x v) xs vs r1 q
      exact ⟨.lst s1 (dpAll_mono r.fr b1), b2, Nat.succ_le_succ b3⟩
    · simp only [okD, reduceCtorEq, Bool.false_eq_true] at q
  · have e : vw h x = x := by
      cases x <;> first | rfl | exact absurd ⟨_, rfl⟩ hl
    rw [e] at q ⊢
    obtain ⟨b1, b2, b3⟩ := rep_D (k + 1) x u rx q
    exact ⟨dp_mono r.fr b1, b2, b3⟩
/-- x == y, x != y -/
def eqF (neg : Bool) : W → W → AH → Fo := fun x y h => if okD 60 (vw h x) = true ∧ okD 60 (vw h y) = true then ret (.bl (if neg then !eqW 60 (vw h x) (vw h y) else eqW 60 (vw h x) (vw h y))) h else none
theorem shaped_of {d : PyData} (h1 : d.canLay0 = true) (h2 : d.depth ≤ 60) : SeqAt.shaped d = true := by
  unfold SeqAt.shaped
  rw [h1, decide_eq_true (Nat.le_trans h2 (by decide))]; rfl
theorem S_eq : OpS K T (rEqD K) (eqF false) := by
  intro ω H h h' x y z u v Q r rx ry e a
  unfold eqF at e
  split at e
  · rename_i hq
    obtain ⟨rfl, rfl⟩ := Prod.mk.inj (Option.some.inj e)
    obtain ⟨b1, b2, b3⟩ := data_at r rx hq.1
    obtain ⟨c1, c2, c3⟩ := data_at r ry hq.2
    refine ⟨_, _, b1, c1, shaped_of b2 b3, shaped_of c2 c3, ?_⟩
    rw [eqv_toD _ _ _ hq.1 hq.2]
    exact a.pure r rfl
  · cases e
theorem S_ne : OpS K T (rNeD K) (eqF true) := by
  intro ω H h h' x y z u v Q r rx ry e a
  unfold eqF at e
  split at e
  · rename_i hq
    obtain ⟨rfl, rfl⟩ := Prod.mk.inj (Option.some.inj e)
    obtain ⟨b1, b2, b3⟩ := data_at r rx hq.1
    obtain ⟨c1, c2, c3⟩ := data_at r ry hq.2
    refine ⟨_, _, b1, c1, shaped_of b2 b3, shaped_of c2 c3, ?_⟩
    rw [eqv_toD _ _ _ hq.1 hq.2]
    exact a.pure r rfl
  · cases e

/-! ### order -/
/-- the two may be compared by < -/
def alikeW (x y : W) : Bool := okD 60 x && okD 60 y && PySem.W.alike (toD 60 x) (toD 60 y) && (match x with | .non => false | _ => true)
def ltW (x y : W) : Bool := PySem.W.dataLt (toD 60 x) (toD 60 y)
/-- x < y -/
def rLtD (K : PySem.W.Frag) : R2 := fun x y H Q => ∃ d e, Dp K H x d ∧ Dp K H y e ∧ PySem.W.alike d e = true ∧ d ≠ .none ∧ d.depth ≤ 60 ∧ Q (.bl (PySem.W.dataLt d e)) H
theorem op_ltD {X : Cx} (hu : X.A.units + 64 < cLine) : OpR X (compareOp .Lt) (rLtD X.K) := by
  intro pins s σ H x y v u Q I rx ry hh
  obtain ⟨d, e, hd, he, al, hn, dp, q⟩ := hh
  obtain ⟨as, r1⟩ := Dp.reads I d x v hd rx
  obtain ⟨bs, r2⟩ := Dp.reads I e y u he ry
  have hm : min d.depth e.depth ≤ d.depth := Nat.min_le_left _ _
  exact PySem.W.rcLt_alike d e X.A s v u as bs r1 r2 al hn (by omega) X.prog X.w X.xe _ ⟨.bl _, H, I, rfl, q⟩
def ltF : W → W → AH → Fo := fun x y h => if alikeW x y = true then ret (.bl (ltW x y)) h else none
theorem S_lt : OpS K T (rLtD K) ltF := by
  intro ω H h h' x y z u v Q r rx ry e a
  unfold ltF at e
  split at e
  · rename_i hq
    unfold alikeW at hq
    simp only [Bool.and_eq_true] at hq
    obtain ⟨rfl, rfl⟩ := Prod.mk.inj (Option.some.inj e)
    obtain ⟨b1, b2, b3⟩ := rep_D 60 x u rx hq.1.1.1
    obtain ⟨c1, c2, c3⟩ := rep_D 60 y v ry hq.1.1.2
    refine ⟨_, _, dp_mono r.fr b1, dp_mono r.fr c1, hq.1.2, ?_, b3, a.pure r rfl⟩
    intro q
    cases x <;> first | (simp only [toD, reduceCtorEq] at q; done) | (simp at hq; done) | (simp [okD] at hq; done)
  · cases e
end
end Dn
set_option Elab.async false
set_option linter.all false
set_option maxRecDepth 100000
set_option maxHeartbeats 2000000
namespace Dn
open PySem L2 Evl

/-! ### sorted -/
section
open PySem.W
variable {prog : Program} {w : World} {A : Around} {E : Value → Shared → Prop} {s : Shared} {β : Type} {vs : List Value} {bs : List β} {enc : β → PyData} {Rr : Value → β → Prop}
/-- sorted(x), whatever x is whose items are collected -/
theorem sorted_of {x : Value} {Q : Value → Shared → Prop} (hcol : ∀ (A : Around) (E : Value → Shared → Prop) (Q : List Value → Shared → Prop), A.handled = none → (∀ h', (∀ b o, s.heap.get? b = some o → h'.get? b = some o) → Q vs { s with heap := h' }) → wpAny (model prog w) A (collect x) Q E s) (hc0 : A.handled = none)
    (e : EachIs Rr vs bs) (er : EachIs (fun v b => ∃ as, Reads s.heap v (enc b) as) vs bs) (hal : AllAlike (bs.map enc)) (hk : Sortable (bs.map enc)) (hL : bs.length ≤ sizeLine) (hu : ∀ b, b ∈ bs → A.units + 2 + (enc b).depth < cLine)
    (h : ∀ (h1 h' : Heap) (out : List Value) (n : Nat), (∀ b o, s.heap.get? b = some o → h1.get? b = some o) → (∀ b o, h1.get? b = some o → h'.get? b = some o) → h'.get? h1.objs.size = some { cls := .type "list", data := .seq (List.toArray out) n } → EachIs Rr out (bs.mergeSort (dataLe false enc)) → Q (.ref h1.objs.size) { s with heap := h' }) :
    wpAny (model prog w) A (call (.builtin "sorted") [x]) Q E s := by
  have hLv : vs.length ≤ sizeLine := by rw [e.length]; exact hL
  refine PyProof.Rows.call_function_entry_kw PyProof.Rows.kind_sorted PyProof.Rows.plain_sorted PyProof.Rows.entry_sorted (PyProof.Rows.args_sorted1 _) ?_
  unfold Builtin.«sorted»
  refine wpAny_bind (m := checkCount "sorted" 1 1 _) (wpAny_pure ?_)
  refine wpAny_bind (hcol _ _ _ hc0 fun h1 k1 => ?_)
  refine wpAny_bind (wpAny_newList ?_ hLv)
  have hp : (h1.push { cls := .type "list", data := .seq vs.toArray }).get? h1.objs.size = some { cls := .type "list", data := .seq vs.toArray } := Heap.get?_push_size _ rfl
  have k2 : ∀ b o, h1.get? b = some o → (h1.push { cls := .type "list", data := .seq vs.toArray }).get? b = some o := fun b o q => Heap.get?_push_of_some _ q
  have k3 : ∀ b o, h1.get? b = some o → (sortingHeap (h1.push { cls := .type "list", data := .seq vs.toArray }) h1.objs.size vs).get? b = some o := fun b o q =>
    sortingHeap_old (Nat.ne_of_lt (Heap.lt_size q)) (k2 b o q)
  refine wpAny_bind (wpAny_holding (PyProof.Rows.wpAny_call_entry_kw PyProof.Rows.slot_list_sort ⟨_, hp, rfl⟩ PyProof.Rows.entry_list_sort ?body (PyProof.Rows.args_list_sort _)))
  case body =>
    have er' : EachIs (fun v b => ∃ as, Reads (sortingHeap (h1.push { cls := .type "list", data := .seq vs.toArray }) h1.objs.size vs) v (enc b) as) vs bs := er.mono fun _ _ ⟨as, r⟩ => ⟨as, PyProof.Rows.Reads.keeps (fun b o q => k3 b o (k1 b o q)) r⟩
    have S : SortsAt prog w A.in1.in1 { s with heap := sortingHeap (h1.push { cls := .type "list", data := .seq vs.toArray }) h1.objs.size vs } (dataKind (sortingHeap (h1.push { cls := .type "list", data := .seq vs.toArray }) h1.objs.size vs) (bs.map enc)) vs :=
      SortsAt.data (s := { s with heap := sortingHeap (h1.push { cls := .type "list", data := .seq vs.toArray }) h1.objs.size vs }) (each_map (R := fun v d => ∃ as, Reads (sortingHeap (h1.push { cls := .type "list", data := .seq vs.toArray }) h1.objs.size vs) v d as) enc er') hal hk (bound_map hu)
    refine list_sort_vals (s := { s with heap := h1.push { cls := .type "list", data := .seq vs.toArray } }) (n := 0) hp S hLv ?_
    refine ⟨.none, rfl, wpAny_pure ⟨_, rfl, ?_⟩⟩
    obtain ⟨ep, he'⟩ := PyProof.Rows.sortedHeap_at (vs := vs) (out := (sortVals (dataKind (sortingHeap (h1.push { cls := .type "list", data := .seq vs.toArray }) h1.objs.size vs) (bs.map enc)) false vs vs).toArray) hp
    refine h h1 _ _ ep k1 (fun b o q => ?_) he' (sortVals_data false e er' hal)
    have lt := Heap.lt_size q
    rw [PyProof.Rows.sortedHeap_old (Nat.ne_of_lt lt) (by rw [PyProof.Rows.size_push']; exact Nat.lt_succ_of_lt lt)]
    exact k2 b o q
end

section
open PySem.W
/-- sorted of a list or a tuple of data -/
def rSortD (K : PySem.W.Frag) : List V → Hp → VK → Prop := fun us H Q => ∃ (a : Addr) (vs : List V) (ds : List PyData), us = [V.ref a] ∧ (SqL K H a vs ∨ SqT K H a vs) ∧ DpAll K H vs ds ∧ AllAlike ds ∧ Sortable ds ∧ (∀ d ∈ ds, d.depth ≤ 60) ∧
  ∀ p, H p = none → Q (.ref p) (upd H p (.lst (((vs.zip ds).mergeSort (dataLe false Prod.snd)).map Prod.fst)))
theorem DpAll.len {K : PySem.W.Frag} {H : Hp} : ∀ {vs : List V} {ds : List PyData}, DpAll K H vs ds → vs.length = ds.length
  | _, _, .nil => rfl
  | _, _, .cons _ b => congrArg Nat.succ (DpAll.len b)
theorem each_zip {X : Cx} {pins : List (Addr × Obj)} {σ : L2.St} {H : Hp} {s : Shared} (I : Inv X pins σ H s) : ∀ {vs : List V} {ds : List PyData} {its : List Value}, DpAll X.K H vs ds → Vals vs its →
    EachIs (fun u (b : V × PyData) => RelV b.1 u) its (vs.zip ds) ∧ EachIs (fun u (b : V × PyData) => ∃ as, Reads s.heap u b.2 as) its (vs.zip ds)
  | _, _, _, .nil, .nil => ⟨.nil, .nil⟩
  | _, _, _, .cons a b, .cons r t => by
    obtain ⟨h1, h2⟩ := each_zip I b t
    obtain ⟨as, q⟩ := Dp.reads I _ _ _ a r
    exact ⟨.cons r h1, .cons ⟨as, q⟩ h2⟩
theorem vals_of_each : ∀ {us : List Value} {bs : List (V × PyData)}, EachIs (fun u (b : V × PyData) => RelV b.1 u) us bs → Vals (bs.map Prod.fst) us
  | _, _, .nil => .nil
  | _, _, .cons r t => .cons r (vals_of_each t)
theorem cr_sortD {X : Cx} (hc : X.calm = true) (hu : X.A.units + 64 < cLine) : CallR X (.builtin "sorted") (rSortD X.K) := by
  intro pins s σ H vs us Q I r h
  obtain ⟨a, ws, ds, rfl, hs, hd, hal, hk, hdep, q⟩ := h
  rw [Vals.ref1 r]
  have hL : (ws.zip ds).length = ws.length := by rw [List.length_zip, ← DpAll.len hd, Nat.min_self]
  have hz : ws.length ≤ sizeLine := by
    rcases hs with hs | hs
    · exact (I.list hs).choose_spec.2.2
    · exact (I.tuple hs).choose_spec.2.2
  have enc : (ws.zip ds).map Prod.snd = ds := by
    rw [List.map_snd_zip]; exact Nat.le_of_eq (DpAll.len hd).symm
  obtain ⟨its, rv, hcol⟩ : ∃ its, Vals ws its ∧ ∀ (A : Around) (E : Value → Shared → Prop) (Q : List Value → Shared → Prop), A.handled = none → (∀ h', (∀ b o, s.heap.get? b = some o → h'.get? b = some o) → Q its { s with heap := h' }) → wpAny (model X.prog X.w) A (collect (.ref a)) Q E s := by
    rcases hs with hs | hs
    · obtain ⟨its, rv, ⟨o, n, e1, e2, _, e4⟩, hz'⟩ := I.list hs
      have hl := rv.length
      exact ⟨its, rv, fun A E Q _ hq => wpAny_collect_seq a (.inl rfl) e1 e2 e4 (by simpa using hq) (by rw [List.size_toArray]; omega)⟩
    · obtain ⟨its, rv, ⟨o, e1, e2, n, e4⟩, hz'⟩ := I.tuple hs
      have hl := rv.length
      exact ⟨its, rv, fun A E Q _ hq => wpAny_collect_seq a (.inr rfl) e1 e2 e4 (by simpa using hq) (by rw [List.size_toArray]; omega)⟩
  obtain ⟨z1, z2⟩ := each_zip I hd rv
  refine sorted_of (bs := ws.zip ds) (enc := Prod.snd) hcol (I.ok.hd hc) z1 z2 (by rw [enc]; exact hal) (by rw [enc]; exact hk) (by rw [hL]; exact hz) (fun b hb => ?_) fun h1 h' out n k1 k2 ho hout => ?_
  · have := hdep b.2 (List.of_mem_zip (a := b.1) (b := b.2) hb).2
    omega
  · have I1 : Inv X pins σ H { s with heap := h1 } := I.kept (t' := s.toks) k1
    have hf := I1.hok.fresh (Nat.le_refl h1.objs.size)
    refine ⟨.ref h1.objs.size, _, I1.laid (t' := s.toks) (o := .lst (((ws.zip ds).mergeSort (dataLe false Prod.snd)).map Prod.fst)) k2 (Nat.le_refl _) ?_, rfl, q _ hf⟩
    refine ⟨by rw [List.length_map, List.length_mergeSort, hL]; exact hz, out, n, vals_of_each hout, ho⟩
end
section
open PySem.W
variable {K : PySem.W.Frag} {T : Tb} {ω ω' : Wo} {H H' : Hp} {h h' : AH}
/-- may be sorted -/
def sortOk (xs : List W) : Bool := xs.all (okD 60) && xs.all (fun x => xs.all fun y => PySem.W.alike (toD 60 x) (toD 60 y)) && (xs.all (fun x => match x with | .tup (_ :: _) => true | _ => false) || xs.all (fun x => match x with | .tup _ => false | .non => false | _ => true))
/-- the order of sorting -/
def leW (x y : W) : Bool := !ltW y x
def sortW (xs : List W) : List W := xs.mergeSort leW
theorem sortable_of {xs : List W} (q : sortOk xs = true) : xs.all (okD 60) = true ∧ AllAlike (xs.map (toD 60)) ∧ Sortable (xs.map (toD 60)) := by
  unfold sortOk at q
  simp only [Bool.and_eq_true, Bool.or_eq_true] at q
  obtain ⟨⟨q1, q2⟩, q3⟩ := q
  refine ⟨q1, fun d hd d' hd' => ?_, ?_⟩
  · obtain ⟨x, hx, rfl⟩ := List.mem_map.mp hd
    obtain ⟨y, hy, rfl⟩ := List.mem_map.mp hd'
    exact List.all_eq_true.mp (List.all_eq_true.mp q2 x hx) y hy
  · rcases q3 with q3 | q3
    · refine .inl fun d hd => ?_
      obtain ⟨x, hx, rfl⟩ := List.mem_map.mp hd
      have := List.all_eq_true.mp q3 x hx
      split at this
      · rename_i y ys
        exact ⟨_, _, rfl⟩
      · cases this
    · refine .inr fun d hd => ?_
      obtain ⟨x, hx, rfl⟩ := List.mem_map.mp hd
      have h1 := List.all_eq_true.mp q3 x hx
      have h2 := List.all_eq_true.mp q1 x hx
      cases x <;> first
        | (simp only [Bool.false_eq_true] at h1; done)
        | (simp only [okD, Bool.false_eq_true] at h2; done)
        | exact ⟨fun z => (by simp [toD] at z), fun ys z => (by simp [toD] at z)⟩
theorem each_rep : ∀ {xs : List W} {vs : List V}, RepL K T ω xs vs → EachIs (fun (x : W) (b : V × PyData) => Rep K T ω x b.1 ∧ b.2 = toD 60 x) xs (vs.zip (xs.map (toD 60)))
  | [], _, r => by rw [show _ = [] from r]; exact .nil
  | x :: xs, _, ⟨v, t, e, r, s⟩ => by
    subst e
    exact .cons ⟨r, rfl⟩ (each_rep s)
theorem repL_of_each : ∀ {xs : List W} {bs : List (V × PyData)}, EachIs (fun (x : W) (b : V × PyData) => Rep K T ω x b.1 ∧ b.2 = toD 60 x) xs bs → RepL K T ω xs (bs.map Prod.fst)
  | _, _, .nil => rfl
  | _, _, .cons r t => ⟨_, _, rfl, r.1, repL_of_each t⟩
def sortF (m : Bool) : List W → AH → Fo
  | [x], h => match seqOf h x with
    | some xs => if sortOk xs = true then newL m (sortW xs) h else none
    | none => none
  | _, _ => none
theorem S_sort {m : Bool} : ClS K T (rSortD K) (sortF m) := by
  intro ω H h h' xs z us Q r rx e a
  unfold sortF at e
  split at e
  · rename_i x
    split at e
    · rename_i ys hy
      split at e
      · rename_i hs
        obtain ⟨u, t, rfl, ru, et⟩ := rx
        obtain rfl : t = [] := et
        obtain ⟨p, vs, rfl, s1, z1, r1⟩ := seq_at r ru hy
        obtain ⟨q1, q2, q3⟩ := sortable_of hs
        obtain ⟨b1, b2, b3⟩ := canLay_all 60 (fun x v => rep_D 60 x v) ys vs r1 q1
        have key : RepL K T ω (sortW ys) (((vs.zip (ys.map (toD 60))).mergeSort (dataLe false Prod.snd)).map Prod.fst) := by
          refine repL_of_each (sort_each (each_rep r1) fun p hp q hq => ?_)
          have f1 := (each_rep r1).zip p hp
          have f2 := (each_rep r1).zip q hq
          rw [dataLe_eq]
          show (!ltW q.1 p.1) = !dataLt q.2.2 p.2.2
          rw [f1.2, f2.2]
          rfl
        refine ⟨p, vs, _, rfl, s1, dpAll_mono r.fr b1, q2, q3, fun d hd => ?_, ?_⟩
        · obtain ⟨x, hx, rfl⟩ := List.mem_map.mp hd
          obtain ⟨i, hi, e⟩ := List.getElem_of_mem hx
          obtain ⟨v, hv, rv⟩ := r1.get (i := i) (x := x) (by rw [List.getElem?_eq_getElem hi, e])
          exact (rep_D 60 x v rv (List.all_eq_true.mp q1 x hx)).2.2
        · exact newL_ok r key (by unfold sortW; rw [List.length_mergeSort]; exact z1) e a
      · cases e
    · cases e
  · cases e
end
end Dn
set_option Elab.async false
set_option linter.all false
set_option maxRecDepth 100000
set_option maxHeartbeats 2000000
namespace Dn
open PySem L2 Evl
section
variable {K : PySem.W.Frag} {T : Tb} {ω ω' : Wo} {H H' : Hp} {h h' : AH}

/-! ### is, is not -/
def isNonW : W → Bool
  | .non => true
  | _ => false
theorem isNon_dec {x : W} {u : V} (r : Rep K T ω x u) : decide (u = V.non) = isNonW x := by
  cases x with
  | non => rw [show u = V.non from r]; rfl
  | bl b => rw [show u = _ from r]; rfl
  | int b => rw [show u = _ from r]; rfl
  | str b => rw [show u = _ from r.1]; rfl
  | tup xs => obtain ⟨a, vs, e, _⟩ := r; rw [e]; rfl
  | lst xs => obtain ⟨a, vs, e, _⟩ := r; rw [e]; rfl
  | loc n => obtain ⟨a, e, _⟩ := r; rw [e]; rfl
  | fn k => rw [show u = _ from r]; rfl
/-- is (neg: is not), of None or of truth values -/
def isF (neg : Bool) : W → W → AH → Fo
  | x, .non, h => ret (.bl (if neg then !isNonW x else isNonW x)) h
  | .bl a, .bl b, h => ret (.bl (if neg then !decide (a = b) else decide (a = b))) h
  | _, _, _ => none
def rIs : R2 := fun x y H Q => (y = .non ∧ Q (.bl (decide (x = .non))) H) ∨ rIsB x y H Q
def rIsNot : R2 := fun x y H Q => (y = .non ∧ Q (.bl (!decide (x = .non))) H) ∨ rNotB x y H Q
theorem op_is {X : Cx} : OpR X (compareOp .Is) rIs := op_isN.or op_isBl
theorem op_isnot {X : Cx} : OpR X (compareOp .IsNot) rIsNot := op_notN.or op_notBl
theorem S_is : OpS K T rIs (isF false) := by
  intro ω H h h' x y z u v Q r rx ry e a
  unfold isF at e
  split at e
  · obtain ⟨rfl, rfl⟩ := Prod.mk.inj (Option.some.inj e)
    refine .inl ⟨ry, ?_⟩
    rw [isNon_dec rx]
    exact a.pure r rfl
  · obtain ⟨rfl, rfl⟩ := Prod.mk.inj (Option.some.inj e)
    exact .inr ⟨_, _, rx, ry, a.pure r rfl⟩
  · cases e
theorem S_isnot : OpS K T rIsNot (isF true) := by
  intro ω H h h' x y z u v Q r rx ry e a
  unfold isF at e
  split at e
  · obtain ⟨rfl, rfl⟩ := Prod.mk.inj (Option.some.inj e)
    refine .inl ⟨ry, ?_⟩
    rw [isNon_dec rx]
    exact a.pure r rfl
  · obtain ⟨rfl, rfl⟩ := Prod.mk.inj (Option.some.inj e)
    exact .inr ⟨_, _, rx, ry, a.pure r rfl⟩
  · cases e

/-! ### subscripts -/
def ixF : W → W → AH → Fo
  | .str s, .int i, h => match atI s i with
    | some c => ret (.str [c]) h
    | none => none
  | x, .int i, h => match seqOf h x with
    | some xs => match atI xs i with
      | some y => ret y h
      | none => none
    | none => none
  | _, _, _ => none
theorem RepL.atI {xs : List W} {vs : List V} {i : Int} {x : W} (r : RepL K T ω xs vs) (e : L2.atI xs i = some x) : ∃ v, L2.atI vs i = some v ∧ Rep K T ω x v := by
  unfold L2.atI at e ⊢
  rw [r.length]
  cases q : ixN xs.length i with
  | none => rw [q] at e; cases e
  | some j =>
    rw [q] at e
    exact r.get (i := j) e
theorem sOk_mem {s : List Nat} (h : sOk s = true) {c : Nat} (hc : c ∈ s) : c < 1114112 := by
  unfold sOk at h
  simpa using List.all_eq_true.mp h c hc
theorem atI_mem {α : Type} {xs : List α} {i : Int} {x : α} (e : L2.atI xs i = some x) : x ∈ xs := by
  unfold L2.atI at e
  cases q : ixN xs.length i with
  | none => rw [q] at e; cases e
  | some j => rw [q] at e; exact List.mem_of_getElem? e
theorem S_ix : OpS K T (rIx K) ixF := by
  intro ω H h h' x y z u v Q r rx ry e a
  unfold ixF at e
  split at e
  · rename_i s i
    split at e
    · rename_i c hc
      obtain ⟨rfl, rfl⟩ := Prod.mk.inj (Option.some.inj e)
      obtain ⟨rfl, h1, h2⟩ := rx
      refine .inr (.inr ⟨_, i, c, rfl, ry, by rw [sOf_len]; exact h1, by simpa [sOf] using hc, a.pure r ⟨rfl, (by show 1 ≤ sizeLine; decide), ?_⟩⟩)
      have := sOk_mem h2 (atI_mem hc)
      simp [sOk, this]
    · cases e
  · rename_i i _
    split at e
    · rename_i xs hx
      split at e
      · rename_i y hy
        obtain ⟨rfl, rfl⟩ := Prod.mk.inj (Option.some.inj e)
        obtain ⟨p, vs, rfl, s1, z1, r1⟩ := seq_at r rx hx
        obtain ⟨w, hw, rw'⟩ := r1.atI hy
        rcases s1 with s1 | s1
        · exact .inl ⟨p, vs, i, w, rfl, ry, s1, hw, a.pure r rw'⟩
        · exact .inr (.inl ⟨p, vs, i, w, rfl, ry, s1, hw, a.pure r rw'⟩)
      · cases e
    · cases e
  · cases e
/-- the items from lo on, ahead of hi -/
def cutA {α : Type} (xs : List α) (lo hi : Option Int) : List α := (xs.drop (HT.sIx xs.length 0 lo)).take (HT.sIx xs.length xs.length hi - HT.sIx xs.length 0 lo)
theorem cutA_le {α : Type} (xs : List α) (lo hi : Option Int) : (cutA xs lo hi).length ≤ xs.length := by
  unfold cutA; rw [List.length_take, List.length_drop]; omega
theorem RepL.cut {xs : List W} {vs : List V} (r : RepL K T ω xs vs) (lo hi : Option Int) : RepL K T ω (cutA xs lo hi) (cutV vs lo hi) := by
  unfold cutA cutV
  rw [r.length]
  exact (r.drop _).take _
def slF (m : Bool) (lo hi : Option Int) : W → AH → Fo
  | .str s, h => ret (.str (cutA s lo hi)) h
  | .tup xs, h => ret (.tup (cutA xs lo hi)) h
  | x, h => match lstOf h x with
    | some xs => newL m (cutA xs lo hi) h
    | none => none
def rSlW (K : PySem.W.Frag) : V → Option Int → Option Int → Hp → VK → Prop := fun x lo hi H Q => rSlL K x lo hi H Q ∨ rSlA K x lo hi H Q ∨ rSlS x lo hi H Q
theorem sl_all {X : Cx} : SlR X (rSlW X.K) := sl_list.or (sl_tupA.or sl_str)
theorem cutS_of (s : List Nat) (lo hi : Option Int) : cutS (sOf s) lo hi = sOf (cutA s lo hi) := by
  unfold cutS cutA sOf Str.length
  simp
theorem S_sl {m : Bool} {lo hi : Option Int} {x z : W} {u : V} {Q : VK} (r : HRel K T ω H h) (rx : Rep K T ω x u) (e : slF m lo hi x h = some (z, h')) (a : After K T ω Q z h') : rSlW K u lo hi H Q := by
  unfold slF at e
  split at e
  · obtain ⟨rfl, rfl⟩ := Prod.mk.inj (Option.some.inj e)
    obtain ⟨rfl, h1, h2⟩ := rx
    refine .inr (.inr ⟨_, rfl, by rw [sOf_len]; exact h1, ?_⟩)
    rw [cutS_of]
    refine a.pure r ⟨rfl, Nat.le_trans (cutA_le _ _ _) h1, ?_⟩
    unfold sOk
    refine List.all_eq_true.mpr fun c hc => ?_
    have := sOk_mem h2 (List.mem_of_mem_drop (List.mem_of_mem_take hc))
    simpa using this
  · rename_i xs
    obtain ⟨rfl, rfl⟩ := Prod.mk.inj (Option.some.inj e)
    obtain ⟨p, vs, rfl, s1, z1, r1⟩ := tup_at (x := .tup xs) r rx rfl
    refine .inr (.inl ⟨p, vs, rfl, s1, fun hw => ?_, fun _ => newT_ok r (r1.cut lo hi) (Nat.le_trans (cutA_le _ _ _) z1) a⟩)
    have : cutA xs lo hi = xs := by
      rw [r1.length] at hw
      unfold cutA
      rw [hw.1, hw.2]
      simp
    rw [this] at a
    exact a.pure r rx
  · split at e
    · rename_i xs hx
      obtain ⟨p, vs, rfl, s1, z1, r1⟩ := lst_at r rx hx
      exact .inl ⟨p, vs, rfl, s1, newL_ok r (r1.cut lo hi) (Nat.le_trans (cutA_le _ _ _) z1) e a⟩
    · cases e

/-! ### built-in calls -/
def lenF : List W → AH → Fo
  | [.str s], h => ret (.int s.length) h
  | [x], h => match seqOf h x with
    | some xs => ret (.int xs.length) h
    | none => none
  | _, _ => none
def rLenW (K : PySem.W.Frag) : List V → Hp → VK → Prop := fun xs H Q => (∃ p ys, xs = [.ref p] ∧ (SqL K H p ys ∨ SqT K H p ys) ∧ Q (.int ys.length) H) ∨ (∃ z, xs = [.str z] ∧ z.length ≤ sizeLine ∧ Q (.int z.length) H)
theorem cl_len {X : Cx} : CallR X (.builtin "len") (rLenW X.K) := call_len_seq.or call_len_str
theorem RepL.one_of {x : W} {us : List V} (r : RepL K T ω [x] us) : ∃ u, us = [u] ∧ Rep K T ω x u := by
  obtain ⟨u, t, e, ru, et⟩ := r
  obtain rfl : t = [] := et
  exact ⟨u, e, ru⟩
theorem RepL.two_of {x y : W} {us : List V} (r : RepL K T ω [x, y] us) : ∃ u v, us = [u, v] ∧ Rep K T ω x u ∧ Rep K T ω y v := by
  obtain ⟨u, t, e, ru, q⟩ := r
  obtain ⟨v, rfl, rv⟩ := RepL.one_of q
  exact ⟨u, v, e, ru, rv⟩
theorem S_len : ClS K T (rLenW K) lenF := by
  intro ω H h h' xs z us Q r rx e a
  unfold lenF at e
  split at e
  · obtain ⟨rfl, rfl⟩ := Prod.mk.inj (Option.some.inj e)
    obtain ⟨u, rfl, rfl, h1, h2⟩ := RepL.one_of rx
    refine .inr ⟨_, rfl, by rw [sOf_len]; exact h1, ?_⟩
    rw [sOf_len]
    exact a.pure r rfl
  · split at e
    · rename_i ys hy
      obtain ⟨rfl, rfl⟩ := Prod.mk.inj (Option.some.inj e)
      obtain ⟨u, rfl, ru⟩ := RepL.one_of rx
      obtain ⟨p, vs, rfl, s1, z1, r1⟩ := seq_at r ru hy
      refine .inl ⟨p, vs, rfl, s1, ?_⟩
      rw [r1.length]
      exact a.pure r rfl
    · cases e
  · cases e
def absF : List W → AH → Fo
  | [.int i], h => ret (.int (if i < 0 then -i else i)) h
  | _, _ => none
theorem S_abs : ClS K T (fun xs H Q => ∃ i, xs = [V.int i] ∧ Q (.int (if i < 0 then -i else i)) H) absF := by
  intro ω H h h' xs z us Q r rx e a
  unfold absF at e
  split at e
  · obtain ⟨rfl, rfl⟩ := Prod.mk.inj (Option.some.inj e)
    obtain ⟨u, rfl, ru⟩ := RepL.one_of rx
    obtain rfl : u = _ := ru
    exact ⟨_, rfl, a.pure r rfl⟩
  · cases e
def intF : List W → AH → Fo
  | [.int i], h => ret (.int i) h
  | [.bl b], h => ret (.int (if b then 1 else 0)) h
  | _, _ => none
theorem S_int : ClS K T (fun xs H Q => (∃ i, xs = [V.int i] ∧ Q (.int i) H) ∨ ∃ k, xs = [V.bl k] ∧ Q (.int (if k then 1 else 0)) H) intF := by
  intro ω H h h' xs z us Q r rx e a
  unfold intF at e
  split at e
  · obtain ⟨rfl, rfl⟩ := Prod.mk.inj (Option.some.inj e)
    obtain ⟨u, rfl, ru⟩ := RepL.one_of rx
    obtain rfl : u = _ := ru
    exact .inl ⟨_, rfl, a.pure r rfl⟩
  · obtain ⟨rfl, rfl⟩ := Prod.mk.inj (Option.some.inj e)
    obtain ⟨u, rfl, ru⟩ := RepL.one_of rx
    obtain rfl : u = _ := ru
    exact .inr ⟨_, rfl, a.pure r rfl⟩
  · cases e
/-- list(x), of a list or a tuple -/
def listF (m : Bool) : List W → AH → Fo
  | [x], h => match seqOf h x with
    | some xs => newL m xs h
    | none => none
  | _, _ => none
theorem S_list {m : Bool} : ClS K T (fun xs H Q => ∃ p ys, xs = [V.ref p] ∧ (SqL K H p ys ∨ SqT K H p ys) ∧ ∀ l, H l = none → Q (.ref l) (upd H l (.lst ys))) (listF m) := by
  intro ω H h h' xs z us Q r rx e a
  unfold listF at e
  split at e
  · split at e
    · rename_i ys hy
      obtain ⟨u, rfl, ru⟩ := RepL.one_of rx
      obtain ⟨p, vs, rfl, s1, z1, r1⟩ := seq_at r ru hy
      exact ⟨p, vs, rfl, s1, newL_ok r r1 z1 e a⟩
    · cases e
  · cases e
/-- tuple(x) -/
def tupleF : List W → AH → Fo
  | [.tup xs], h => ret (.tup xs) h
  | [x], h => match lstOf h x with
    | some xs => ret (.tup xs) h
    | none => none
  | _, _ => none
theorem S_tuple : ClS K T (fun xs H Q => ∃ p ys, xs = [V.ref p] ∧ ((SqL K H p ys ∧ ∀ l, H l = none → Q (.ref l) (upd H l (.tup ys))) ∨ (SqT K H p ys ∧ Q (.ref p) H))) tupleF := by
  intro ω H h h' xs z us Q r rx e a
  unfold tupleF at e
  split at e
  · rename_i ys
    obtain ⟨rfl, rfl⟩ := Prod.mk.inj (Option.some.inj e)
    obtain ⟨u, rfl, ru⟩ := RepL.one_of rx
    obtain ⟨p, vs, rfl, s1, z1, r1⟩ := tup_at (x := .tup ys) r ru rfl
    exact ⟨p, vs, rfl, .inr ⟨s1, a.pure r ru⟩⟩
  · split at e
    · rename_i ys hy
      obtain ⟨rfl, rfl⟩ := Prod.mk.inj (Option.some.inj e)
      obtain ⟨u, rfl, ru⟩ := RepL.one_of rx
      obtain ⟨p, vs, rfl, s1, z1, r1⟩ := lst_at r ru hy
      exact ⟨p, vs, rfl, .inl ⟨s1, newT_ok r r1 z1 a⟩⟩
    · cases e
  · cases e
/-- the items as whole numbers, as truth values -/
def intsOf : List W → Option (List Int)
  | [] => some []
  | .int i :: r => (intsOf r).map (i :: ·)
  | _ => none
def blsOf : List W → Option (List Bool)
  | [] => some []
  | .bl i :: r => (blsOf r).map (i :: ·)
  | _ => none
theorem intsOf_rep : ∀ {xs : List W} {ns : List Int} {vs : List V}, intsOf xs = some ns → RepL K T ω xs vs → vs = ns.map V.int
  | [], ns, vs, e, r => by
    obtain rfl : [] = ns := Option.some.inj e
    exact r
  | .int i :: xs, ns, vs, e, ⟨v, t, e1, r, s⟩ => by
    unfold intsOf at e
    cases q : intsOf xs with
    | none => rw [q] at e; cases e
    | some ms =>
      rw [q] at e
      obtain rfl : i :: ms = ns := Option.some.inj e
      obtain rfl : v = _ := r
      rw [e1, intsOf_rep q s]; rfl
  | .non :: _, _, _, e, _ => nomatch e
  | .bl _ :: _, _, _, e, _ => nomatch e
  | .str _ :: _, _, _, e, _ => nomatch e
  | .tup _ :: _, _, _, e, _ => nomatch e
  | .lst _ :: _, _, _, e, _ => nomatch e
  | .loc _ :: _, _, _, e, _ => nomatch e
  | .fn _ :: _, _, _, e, _ => nomatch e
theorem blsOf_rep : ∀ {xs : List W} {ns : List Bool} {vs : List V}, blsOf xs = some ns → RepL K T ω xs vs → vs = ns.map V.bl
  | [], ns, vs, e, r => by
    obtain rfl : [] = ns := Option.some.inj e
    exact r
  | .bl i :: xs, ns, vs, e, ⟨v, t, e1, r, s⟩ => by
    unfold blsOf at e
    cases q : blsOf xs with
    | none => rw [q] at e; cases e
    | some ms =>
      rw [q] at e
      obtain rfl : i :: ms = ns := Option.some.inj e
      obtain rfl : v = _ := r
      rw [e1, blsOf_rep q s]; rfl
  | .non :: _, _, _, e, _ => nomatch e
  | .int _ :: _, _, _, e, _ => nomatch e
  | .str _ :: _, _, _, e, _ => nomatch e
  | .tup _ :: _, _, _, e, _ => nomatch e
  | .lst _ :: _, _, _, e, _ => nomatch e
  | .loc _ :: _, _, _, e, _ => nomatch e
  | .fn _ :: _, _, _, e, _ => nomatch e
theorem intsOf_map (ns : List Int) : intsOf (ns.map W.int) = some ns := by
  induction ns with
  | nil => rfl
  | cons n ns ih => show (intsOf (ns.map W.int)).map _ = _; rw [ih]; rfl
theorem blsOf_map (ns : List Bool) : blsOf (ns.map W.bl) = some ns := by
  induction ns with
  | nil => rfl
  | cons n ns ih => show (blsOf (ns.map W.bl)).map _ = _; rw [ih]; rfl
def sumF : List W → AH → Fo
  | [x], h => match (lstOf h x).bind intsOf with
    | some ns => ret (.int ns.sum) h
    | none => none
  | _, _ => none
theorem ints_at (r : HRel K T ω H h) {x : W} {u : V} {ns : List Int} (rx : Rep K T ω x u) (e : (lstOf h x).bind intsOf = some ns) : ∃ a, u = .ref a ∧ SqL K H a (ns.map V.int) := by
  cases q : lstOf h x with
  | none => rw [q] at e; cases e
  | some xs =>
    rw [q] at e
    obtain ⟨p, vs, rfl, s1, z1, r1⟩ := lst_at r rx q
    rw [intsOf_rep e r1] at s1
    exact ⟨p, rfl, s1⟩
theorem bls_at (r : HRel K T ω H h) {x : W} {u : V} {ns : List Bool} (rx : Rep K T ω x u) (e : (lstOf h x).bind blsOf = some ns) : ∃ a, u = .ref a ∧ SqL K H a (ns.map V.bl) := by
  cases q : lstOf h x with
  | none => rw [q] at e; cases e
  | some xs =>
    rw [q] at e
    obtain ⟨p, vs, rfl, s1, z1, r1⟩ := lst_at r rx q
    rw [blsOf_rep e r1] at s1
    exact ⟨p, rfl, s1⟩
theorem S_sum : ClS K T (rSum K) sumF := by
  intro ω H h h' xs z us Q r rx e a
  unfold sumF at e
  split at e
  · split at e
    · rename_i ns hn
      obtain ⟨rfl, rfl⟩ := Prod.mk.inj (Option.some.inj e)
      obtain ⟨u, rfl, ru⟩ := RepL.one_of rx
      obtain ⟨p, rfl, s1⟩ := ints_at r ru hn
      exact ⟨p, ns, rfl, s1, a.pure r rfl⟩
    · cases e
  · cases e
def allF (al : Bool) : List W → AH → Fo
  | [x], h => match (lstOf h x).bind blsOf with
    | some ns => ret (.bl (if al then ns.all id else ns.any id)) h
    | none => none
  | _, _ => none
theorem S_all : ClS K T (rAll K) (allF true) := by
  intro ω H h h' xs z us Q r rx e a
  unfold allF at e
  split at e
  · split at e
    · rename_i ns hn
      obtain ⟨rfl, rfl⟩ := Prod.mk.inj (Option.some.inj e)
      obtain ⟨u, rfl, ru⟩ := RepL.one_of rx
      obtain ⟨p, rfl, s1⟩ := bls_at r ru hn
      exact ⟨p, ns, rfl, s1, a.pure r rfl⟩
    · cases e
  · cases e
theorem S_any : ClS K T (rAny K) (allF false) := by
  intro ω H h h' xs z us Q r rx e a
  unfold allF at e
  split at e
  · split at e
    · rename_i ns hn
      obtain ⟨rfl, rfl⟩ := Prod.mk.inj (Option.some.inj e)
      obtain ⟨u, rfl, ru⟩ := RepL.one_of rx
      obtain ⟨p, rfl, s1⟩ := bls_at r ru hn
      exact ⟨p, ns, rfl, s1, a.pure r rfl⟩
    · cases e
  · cases e

/-! ### isinstance -/
def tyW (h : AH) : W → Option String
  | .non => some "NoneType"
  | .bl _ => some "bool"
  | .int _ => some "int"
  | .str _ => some "str"
  | .tup _ => some "tuple"
  | .lst _ => some "list"
  | .loc n => match h[n]? with
    | some (.lst _) => some "list"
    | _ => none
  | .fn _ => none
def isiF (c : String) : W → AH → Fo := fun x h => match tyW h x with
  | some t => match kitB t c with
    | some b => ret (.bl b) h
    | none => none
  | none => none
theorem tyX_of (r : HRel K T ω H h) {x : W} {u : V} {t : String} (rx : Rep K T ω x u) (e : tyW h x = some t) : TyX K H u (.type t) := by
  have lstTy : ∀ {a : Addr} {vs : List V}, SqL K H a vs → TyX K H (.ref a) (.type "list") := fun {a vs} q => by
    rcases q with (q | ⟨o, q⟩) | ⟨o, its, n, h1, h2, _⟩
    · exact .base (.lst q)
    · exact .base (.frz q)
    · exact .kList h1 h2
  cases x with
  | non => obtain rfl : "NoneType" = t := Option.some.inj e; rw [show u = _ from rx]; exact .base .non
  | bl b => obtain rfl : "bool" = t := Option.some.inj e; rw [show u = _ from rx]; exact .base (.bl b)
  | int b => obtain rfl : "int" = t := Option.some.inj e; rw [show u = _ from rx]; exact .base (.int b)
  | str b => obtain rfl : "str" = t := Option.some.inj e; rw [show u = _ from rx.1]; exact .base (.str _)
  | tup xs =>
    obtain rfl : "tuple" = t := Option.some.inj e
    obtain ⟨p, vs, rfl, s1, z1, r1⟩ := tup_at (x := .tup xs) r rx rfl
    rcases s1 with (s1 | ⟨o, s1⟩) | ⟨o, its, n, h1, h2, _⟩
    · exact .base (.tup s1)
    · exact .fTuple s1
    · exact .kTuple h1 h2
  | lst xs =>
    obtain rfl : "list" = t := Option.some.inj e
    obtain ⟨p, vs, rfl, s1, z1, r1⟩ := lst_at (x := .lst xs) r rx rfl
    exact lstTy s1
  | loc n =>
    simp only [tyW] at e
    split at e
    · rename_i ys hy
      obtain rfl : "list" = t := Option.some.inj e
      obtain ⟨p, vs, rfl, s1, z1, r1⟩ := lst_at (x := .loc n) (xs := ys) r rx (by simp only [lstOf, hy])
      exact lstTy s1
    · cases e
  | fn k => cases e
theorem S_isi {c : String} {x z : W} {u : V} {Q : VK} (r : HRel K T ω H h) (rx : Rep K T ω x u) (e : isiF c x h = some (z, h')) (a : After K T ω Q z h') : rIsi K [u, .ty c] H Q := by
  unfold isiF at e
  split at e
  · rename_i t ht
    split at e
    · rename_i b hb
      obtain ⟨rfl, rfl⟩ := Prod.mk.inj (Option.some.inj e)
      exact ⟨u, .ty c, .type t, .type c, b, rfl, .ty c, tyX_of r rx ht, kit_ty hb, a.pure r rfl⟩
    · cases e
  · cases e
end
end Dn
set_option Elab.async false
set_option linter.all false
set_option maxRecDepth 100000
set_option maxHeartbeats 2000000
namespace Dn
open PySem L2 Evl

/-! ### list.remove, by the items' == -/
section
open PySem.MeetsSeq
theorem rmLoop (l : Addr) (items : Array Value) (n : Nat) (x : Value) (e : Value → Bool) (j : Nat) (hj : j < items.size) (hit : e items[j] = true) (hsz : items.size ≤ sizeLine) (k : Nat) :
    ∀ i : Nat, j - i = k → i ≤ j → (∀ m (hm : m < items.size), i ≤ m → m < j → e items[m] = false) → Meets (Builtin.«list.remove.loop» ⟨[.ref l, x, rawInt i], []⟩)
      (fun A R s => s.heap.get? l = some { cls := .type "list", dict := Option.none, data := .seq items n, slots := #[] } ∧ (∀ y, y ∈ items → SeqAt.EqAt A.in1 s y x (e y)) ∧ R (.ok (.ret .none)) { s with heap := s.heap.update l (Obj.mapSeq fun xs => xs.eraseIdxIfInBounds j) }) := by
  induction k with
  | zero =>
    intro i hk hij hno prog w A R s h
    obtain ⟨hp, g, d, tk, os⟩ := s
    obtain ⟨hl, he, h⟩ := h
    obtain rfl : i = j := by omega
    wp_walk using AutoSeq1.wpAny_loadPart' hl
    have hi : items[((i : Nat) : Int).toNat]? = some items[i] := by simp [hj]
    rw [hi]
    refine wpAny_bind (he _ (Array.getElem_mem hj) prog w _ _ ?_)
    rw [hit]
    have hz' : (items.eraseIdxIfInBounds i).size ≤ sizeLine + 1 := Nat.le_trans (size_erased items _) (Nat.le_succ_of_le hsz)
    wp_walk using (wpAny_updateSeq hl rfl (hz := hsz) (_hz' := hz')), AutoSeq1.wpAny_loadPart' hl
    simpa using h
  | succ k ih =>
    intro i hk hij hno prog w A R s h
    obtain ⟨hp, g, d, tk, os⟩ := s
    obtain ⟨hl, he, h⟩ := h
    have hlt : i < items.size := by omega
    wp_walk using AutoSeq1.wpAny_loadPart' hl
    have hi : items[((i : Nat) : Int).toNat]? = some items[i] := by simp [hlt]
    have hc : ((i : Int) + 1) = ((i + 1 : Nat) : Int) := by omega
    rw [hi]
    refine wpAny_bind (he _ (Array.getElem_mem hlt) prog w _ _ ?_)
    rw [hno i hlt (Nat.le_refl _) (by omega)]
    wp_walk
    rw [hc]
    exact ⟨plainId_quiet plain_remove_loop _, codeAny_builtin entry_remove_loop (by
      rw [Around.under_plainId plain_remove_loop _]
      exact ih (i + 1) (by omega) (by omega) (fun m hm q1 q2 => hno m hm (by omega) q2) prog w A R _ ⟨hl, he, h⟩)⟩
theorem list_removeAt (l : Addr) (items : Array Value) (n : Nat) (x : Value) (e : Value → Bool) (j : Nat) (hj : j < items.size) (hit : e items[j] = true) (hno : ∀ m (hm : m < items.size), m < j → e items[m] = false) (hsz : items.size ≤ sizeLine) :
    Meets (Builtin.«list.remove» ⟨[.ref l, x], []⟩)
      (fun A R s => s.heap.get? l = some { cls := .type "list", dict := Option.none, data := .seq items n, slots := #[] } ∧ (∀ y, y ∈ items → SeqAt.EqAt A.in1 s y x (e y)) ∧ R (.ok (.ret .none)) { s with heap := s.heap.update l (Obj.mapSeq fun xs => xs.eraseIdxIfInBounds j) }) := by
  intro prog w A R s h
  obtain ⟨hp, g, d, tk, os⟩ := s
  obtain ⟨hl, he, h⟩ := h
  wp_walk using AutoSeq1.wpAny_loadPart' hl
  exact ⟨plainId_quiet plain_remove_loop _, codeAny_builtin entry_remove_loop (by
    rw [Around.under_plainId plain_remove_loop _]
    exact rmLoop l items n x e j hj hit hsz _ 0 rfl (Nat.zero_le _) (fun m hm _ q2 => hno m hm q2) prog w A R _ ⟨hl, he, h⟩)⟩
end

section
open PySem.W
/-- l.remove(x), the item is there; its items are data -/
def rRemD (K : PySem.W.Frag) : V → List V → Hp → VK → Prop := fun x us H Q => ∃ (l : Addr) (xs : List V) (y : V) (d : PyData) (ds : List PyData) (j : Nat), x = V.ref l ∧ us = [y] ∧ H l = some (.lst xs) ∧ DpAll K H xs ds ∧ Dp K H y d ∧
  SeqAt.shaped (.list ds) = true ∧ SeqAt.shaped d = true ∧ (∃ z, ds[j]? = some z ∧ PyData.eqv z d = true) ∧ (∀ (m : Nat) (z : PyData), m < j → ds[m]? = some z → PyData.eqv z d = false) ∧ Q .non (upd H l (.lst (xs.eraseIdx j)))
theorem mt_remD {X : Cx} (hu : X.A.units + 65 < cLine) : MtR X "list.remove" (rRemD X.K) := by
  intro pins s σ H x xs v us Q I rx rxs h
  obtain ⟨a, ws, y, d, ds, j, rfl, rfl, hH, hds, hy, sl, sd, ⟨z, hz, hzj⟩, hno, q⟩ := h
  cases rx
  obtain ⟨uy, rfl, ry⟩ := Vals.one rxs
  obtain ⟨bs, r1⟩ := Dp.reads I d y uy hy ry
  have hxs : PyData.canLayAll0 ds = true := SeqAt.canLay_of_shaped sl
  have hroom : X.A.units + 1 + min (PyData.depthAll ds) d.depth < cLine := by
    have h1 := SeqAt.depth_of_shaped sd
    have h2 : min (PyData.depthAll ds) d.depth ≤ d.depth := Nat.min_le_right _ _
    omega
  obtain ⟨hL, its, n, rv, hlen, ho⟩ := I.lstM hH
  obtain ⟨as, h4⟩ := Dp.readsAll I ds _ its hds rv
  have hn : its.length = ds.length := SeqAt.ReadsAll.length ds its as h4
  have hmap : its.map (SeqAt.readOf s.heap) = ds := SeqAt.readsAll_map ds its as hxs h4
  obtain ⟨hjd, _⟩ := List.getElem?_eq_some_iff.mp hz
  have hj : j < its.toArray.size := by rw [List.size_toArray]; omega
  have look : ∀ (m : Nat) (hm : m < its.toArray.size) (w : PyData), ds[m]? = some w → SeqAt.readOf s.heap its.toArray[m] = w := fun m hm w hw => by
    have hml : m < its.length := by rw [List.size_toArray] at hm; exact hm
    rw [← hmap, List.getElem?_map, List.getElem?_eq_getElem hml] at hw
    have e1 := Option.some.inj (show some (SeqAt.readOf s.heap its[m]) = some w from hw)
    simpa using e1
  refine PySem.call_meets PySem.F.slot_list_remove ⟨_, ho, rfl⟩ PySem.F.entry_list_remove (PySem.F.args_list_remove_2 _ _)
    (list_removeAt a its.toArray n uy (fun u => PyData.eqv (SeqAt.readOf s.heap u) d) j hj ?_ ?_ (by rw [List.size_toArray]; omega))
    ⟨ho, SeqAt.items_eqAt (vs := its.toArray) (show ReadsAll s.heap its.toArray.toList ds as from h4) r1 hxs (SeqAt.canLay_of_shaped sd) hroom, ?_⟩
  · show PyData.eqv (SeqAt.readOf s.heap its.toArray[j]) d = true
    rw [look j hj z hz]; exact hzj
  · intro m hm hmj
    have hmd : m < ds.length := by omega
    have hz' : ds[m]? = some ds[m] := List.getElem?_eq_getElem hmd
    show PyData.eqv (SeqAt.readOf s.heap its.toArray[m]) d = false
    rw [look m hm _ hz']
    exact hno m _ hmj hz'
  · refine ⟨.non, _, I.lset (its' := its.eraseIdx j) (t' := s.toks) hH ho ?_ (rv.eraseIdx j) (Nat.le_trans (len_erase ws j) hL), rfl, q⟩
    show its.toArray.eraseIdxIfInBounds j = (its.eraseIdx j).toArray
    rw [List.eraseIdxIfInBounds_toArray]
end

section
variable {K : PySem.W.Frag} {T : Tb} {ω ω' : Wo} {H H' : Hp} {h h' : AH}
/-- the list object at a value -/
theorem obj_at (r : HRel K T ω H h) {n : Nat} {u : V} {o : AO} (rx : Rep K T ω (.loc n) u) (e : h[n]? = some o) : ∃ a, u = .ref a ∧ ω.ρ[n]? = some a ∧ ORel K T ω o (H a) := by
  obtain ⟨a, e1, e2⟩ := rx
  exact ⟨a, e1, e2, r.at_ n o a e e2⟩
/-- the list at n becomes ys, and z is handed back -/
theorem lst_wr (r : HRel K T ω H h) {n : Nat} {a : Addr} (e2 : ω.ρ[n]? = some a) {ys : List W} {ws : List V} (ry : RepL K T ω ys ws) (hz : ys.length ≤ sizeLine) {Q : VK} {z : W} {v : V} (a' : After K T ω Q z (h.set n (.lst ys))) (rz : Rep K T ω z v) : Q v (upd H a (.lst ws)) :=
  a' v _ ω (Wo.Le.refl _) (r.wr e2 ⟨ws, rfl, hz, ry⟩) rz
def wrL (n : Nat) (ys : List W) (z : W) (h : AH) : Fo := some (z, h.set n (.lst ys))
def appF : W → List W → AH → Fo
  | .loc n, [y], h => match h[n]? with
    | some (.lst xs) => if xs.length < sizeLine then wrL n (xs ++ [y]) .non h else none
    | _ => none
  | _, _, _ => none
theorem S_app {ty : String} : MtS K T ty rAppend appF := by
  intro ω H h h' x xs z u us Q r rx rxs e a
  unfold appF at e
  split at e
  · rename_i n y
    split at e
    · rename_i ys hy
      split at e
      · rename_i hl
        obtain ⟨rfl, rfl⟩ := Prod.mk.inj (Option.some.inj e)
        obtain ⟨p, rfl, e2, vs, e3, hz, r1⟩ := obj_at r rx hy
        obtain ⟨w, rfl, rw'⟩ := RepL.one_of rxs
        exact ⟨p, vs, w, rfl, rfl, e3, by rw [r1.length]; exact hl, lst_wr r e2 (r1.append (RepL.one rw')) (by rw [List.length_append]; exact hl) a rfl⟩
      · cases e
    · cases e
  · cases e
def popF : W → List W → AH → Fo
  | .loc n, [], h => match h[n]? with
    | some (.lst xs) => match xs[xs.length - 1]? with
      | some y => wrL n xs.dropLast y h
      | none => none
    | _ => none
  | _, _, _ => none
theorem S_pop {ty : String} : MtS K T ty rPop popF := by
  intro ω H h h' x xs z u us Q r rx rxs e a
  unfold popF at e
  split at e
  · rename_i n
    split at e
    · rename_i ys hy
      split at e
      · rename_i y hy1
        obtain ⟨rfl, rfl⟩ := Prod.mk.inj (Option.some.inj e)
        obtain ⟨p, rfl, e2, vs, e3, hz, r1⟩ := obj_at r rx hy
        obtain rfl : us = [] := rxs
        obtain ⟨w, hw, rw'⟩ := r1.get hy1
        exact ⟨p, vs, w, rfl, rfl, e3, by rw [r1.length]; exact hw, lst_wr r e2 r1.dropLast (by rw [List.length_dropLast]; omega) a rw'⟩
      · cases e
    · cases e
  · cases e
/-- the first place of an equal item -/
def findW (x : W) : List W → Option Nat
  | [] => none
  | y :: r => if eqW 60 y x then some 0 else (findW x r).map (· + 1)
theorem findW_some {x : W} : ∀ {xs : List W} {j : Nat}, findW x xs = some j → (∃ y, xs[j]? = some y ∧ eqW 60 y x = true) ∧ ∀ m y, m < j → xs[m]? = some y → eqW 60 y x = false
  | [], _, e => nomatch e
  | y :: r, j, e => by
    unfold findW at e
    split at e
    · rename_i hy
      obtain rfl : 0 = j := Option.some.inj e
      exact ⟨⟨y, rfl, hy⟩, fun m _ hm => absurd hm (Nat.not_lt_zero _)⟩
    · rename_i hy
      cases q : findW x r with
      | none => rw [q] at e; cases e
      | some k =>
        rw [q] at e
        obtain rfl : k + 1 = j := Option.some.inj e
        obtain ⟨⟨w, h1, h2⟩, h3⟩ := findW_some q
        refine ⟨⟨w, by simpa using h1, h2⟩, fun m z hm hz => ?_⟩
        cases m with
        | zero =>
          obtain rfl : y = z := by simpa using hz
          simpa using hy
        | succ m => exact h3 m z (by omega) (by simpa using hz)
theorem map_at {α β : Type} {f : α → β} {xs : List α} {i : Nat} {y : β} (e : (xs.map f)[i]? = some y) : ∃ x, xs[i]? = some x ∧ y = f x := by
  rw [List.getElem?_map] at e
  cases q : xs[i]? with
  | none => rw [q] at e; cases e
  | some x => rw [q] at e; exact ⟨x, rfl, (Option.some.inj e).symm⟩
def remF : W → List W → AH → Fo
  | .loc n, [y], h => match h[n]? with
    | some (.lst xs) => if xs.all (okD 59) = true ∧ okD 60 y = true then match findW y xs with
      | some j => wrL n (xs.eraseIdx j) .non h
      | none => none
      else none
    | _ => none
  | _, _, _ => none
theorem S_rem {ty : String} : MtS K T ty (rRemD K) remF := by
  intro ω H h h' x xs z u us Q r rx rxs e a
  unfold remF at e
  split at e
  · rename_i n y
    split at e
    · rename_i ys hy
      split at e
      · rename_i hq
        split at e
        · rename_i j hj
          obtain ⟨rfl, rfl⟩ := Prod.mk.inj (Option.some.inj e)
          obtain ⟨p, rfl, e2, vs, e3, hz, r1⟩ := obj_at r rx hy
          obtain ⟨w, rfl, rw'⟩ := RepL.one_of rxs
          obtain ⟨b1, b2, b3⟩ := canLay_all 59 (fun x v => rep_D 59 x v) ys vs r1 hq.1
          obtain ⟨c1, c2, c3⟩ := rep_D 60 y w rw' hq.2
          have ok60 : ∀ x, x ∈ ys → okD 60 x = true := fun x hx => okD_mono 59 x (List.all_eq_true.mp hq.1 x hx)
          have same : ys.map (toD 59) = ys.map (toD 60) := List.map_congr_left fun x hx => toD_up 59 x (List.all_eq_true.mp hq.1 x hx)
          obtain ⟨⟨f1, f2, f3⟩, f4⟩ := findW_some hj
          refine ⟨p, vs, w, toD 60 y, ys.map (toD 59), j, rfl, rfl, e3, dpAll_mono r.fr b1, dp_mono r.fr c1, shaped_of (d := .list _) b2 (Nat.succ_le_succ b3), shaped_of c2 c3, ?_, ?_, lst_wr r e2 (r1.eraseIdx j) (Nat.le_trans (List.length_eraseIdx_le ..) hz) a rfl⟩
          · rw [same]
            exact ⟨toD 60 f1, by rw [List.getElem?_map, f2]; rfl, by rw [eqv_toD 60 _ _ (ok60 f1 (List.mem_of_getElem? f2)) hq.2]; exact f3⟩
          · intro m d hm hd
            rw [same] at hd
            obtain ⟨g1, g2, rfl⟩ := map_at hd
            rw [eqv_toD 60 _ _ (ok60 g1 (List.mem_of_getElem? g2)) hq.2]
            exact f4 m g1 hm g2
        · cases e
      · cases e
    · cases e
  · cases e
end
end Dn
set_option Elab.async false
set_option linter.all false
set_option maxRecDepth 100000
set_option maxHeartbeats 2000000
namespace Dn
open PySem L2 Evl

/-! ### truth -/
def truW (h : AH) : W → Option Bool
  | .non => some false
  | .bl b => some b
  | .int i => some (i != 0)
  | .str s => some (!s.isEmpty)
  | .tup xs => some (!xs.isEmpty)
  | .lst xs => some (!xs.isEmpty)
  | .loc n => match h[n]? with
    | some (.lst xs) => some (!xs.isEmpty)
    | _ => none
  | .fn _ => none
def R.test (o : Option Bool) (h : AH) : R Bool := match o with
  | some b => .ok b h
  | none => .bad
def dT (d : Den) : Ev → AH → R Bool := fun σ h => (d σ h).andThen fun x h1 => .test (truW h1 x) h1
def dAnd (a b : Den) : Den := fun σ h => (a σ h).andThen fun x h1 => match truW h1 x with
  | some true => b σ h1
  | some false => .ok x h1
  | none => .bad
def dOr (a b : Den) : Den := fun σ h => (a σ h).andThen fun x h1 => match truW h1 x with
  | some true => .ok x h1
  | some false => b σ h1
  | none => .bad
def dNot (a : Den) : Den := fun σ h => (a σ h).andThen fun x h1 => match truW h1 x with
  | some b => .ok (.bl (!b)) h1
  | none => .bad
def dIf (c a b : Den) : Den := fun σ h => (dT c σ h).andThen fun k h1 => if k = true then a σ h1 else b σ h1
/-- a op b op' c -/
def dChain (f g : W → W → AH → Fo) (a b c : Den) : Den := fun σ h => (a σ h).andThen fun x h1 => (b σ h1).andThen fun y h2 => match f x y h2 with
  | some (.bl true, h3) => (c σ h3).andThen fun z h4 => .opt (g y z h4)
  | some (.bl false, h3) => .ok (.bl false) h3
  | _ => .bad
section
variable {K : PySem.W.Frag} {T : Tb} {Wx : WX} {ω ω' : Wo} {H H' : Hp} {h h' : AH} {s : L2.St}
theorem isEmpty_rep {xs : List W} {vs : List V} (r : RepL K T ω xs vs) : vs.isEmpty = xs.isEmpty := by
  cases xs with
  | nil => rw [show vs = [] from r]; rfl
  | cons x xs => obtain ⟨v, t, e, _⟩ := r; rw [e]; rfl
theorem tru_at (r : HRel K T ω H h) {x : W} {u : V} {b : Bool} (rx : Rep K T ω x u) (e : truW h x = some b) : TruV K u H b := by
  cases x with
  | non => rw [show u = _ from rx]; exact (Option.some.inj e).symm
  | bl c => rw [show u = _ from rx]; exact (Option.some.inj e).symm
  | int c => rw [show u = _ from rx]; exact (Option.some.inj e).symm
  | str c =>
    obtain ⟨rfl, h1, h2⟩ := rx
    refine ⟨by rw [sOf_len]; exact h1, ?_⟩
    rw [sOf_len, ← Option.some.inj e]
    cases c <;> simp <;> omega
  | tup xs =>
    obtain ⟨p, vs, rfl, s1, z1, r1⟩ := tup_at (x := .tup xs) r rx rfl
    exact .inr (.inl ⟨vs, s1, by rw [isEmpty_rep r1]; exact (Option.some.inj e).symm⟩)
  | lst xs =>
    obtain ⟨p, vs, rfl, s1, z1, r1⟩ := lst_at (x := .lst xs) r rx rfl
    exact .inl ⟨vs, s1, by rw [isEmpty_rep r1]; exact (Option.some.inj e).symm⟩
  | loc n =>
    simp only [truW] at e
    split at e
    · rename_i ys hy
      obtain ⟨p, vs, rfl, s1, z1, r1⟩ := lst_at (x := .loc n) (xs := ys) r rx (by simp only [lstOf, hy])
      exact .inl ⟨vs, s1, by rw [isEmpty_rep r1]; exact (Option.some.inj e).symm⟩
    · cases e
  | fn k => cases e
theorem TP'.mono (l : ω.Le ω') {Q : Bool → Hp → Prop} : ∀ {r : R Bool}, TP' K T Wx ω s Q r → TP' K T Wx ω' s Q r
  | .ok _ _, p => fun H' ω2 l2 => p H' ω2 (l.trans l2)
  | .ex _ _ _, p => XP.mono l p
/-- an expression's value, tested -/
theorem tT_val {d : Den} {Q : Bool → Hp → Prop} (q : tT K T Wx (dT d) s H Q) : tE K T Wx d s H (fun x H' => ∃ k, TruV K x H' k ∧ Q k H') := by
  obtain ⟨ω, σ, h, e, rr, p⟩ := q
  refine tE_then (P := fun ω r => TP' K T Wx ω s Q r) e rr (fun _ _ _ z => z) (fun z => z) (fun x h1 u H1 ω1 l1 r1 rx p1 => ?_) p
  unfold R.test at p1
  split at p1
  · rename_i b hb
    exact ⟨b, tru_at r1 rx hb, p1 H1 ω1 l1 r1⟩
  · exact p1.elim
/-- the same, of something that reads as a truth value -/
theorem tT_bl {d : Den} {Q : Bool → Hp → Prop} (q : tT K T Wx (dT d) s H Q) (hb : ∀ σ h x h1, d σ h = .ok x h1 → ∃ b, x = .bl b) : tE K T Wx d s H (fun x H' => ∃ k, x = .bl k ∧ Q k H') := by
  obtain ⟨ω, σ, h, e, rr, p⟩ := q
  refine ⟨ω, σ, h, e, rr, ?_⟩
  unfold dT at p
  cases q : d σ h with
  | ok x h1 =>
    rw [q] at p
    obtain ⟨b, rfl⟩ := hb σ h x h1 q
    intro v H' ω' l r rx
    obtain rfl : v = _ := rx
    exact ⟨b, rfl, p H' ω' l r⟩
  | ex c fs h1 => rw [q] at p; exact p
  | bad => rw [q] at p; exact p
theorem s_truth {X : Cx} {e : Expr} {d : Den} (he : PE X e (tE X.K T Wx d)) (hi : ∀ whole, isTrue e X.env whole = (do let v ← whole; standAt e.pos; holding [v] (truthy v))) : PT X e (tT X.K T Wx (dT d)) :=
  pt_to (pt_truth he hi) fun s H Q q => tT_val q

theorem tT_and {a b : Den} {Q : Bool → Hp → Prop} (q : tT K T Wx (dT (dAnd a b)) s H Q) : tAnd (tT K T Wx (dT a)) (tT K T Wx (dT b)) s H Q := by
  obtain ⟨ω, σ, h, e, rr, p⟩ := q
  refine ⟨ω, σ, h, e, rr, ?_⟩
  unfold dT dAnd at p
  unfold dT
  cases q : a σ h with
  | ok x h1 =>
    rw [q] at p
    simp only [R.andThen] at p ⊢
    cases t : truW h1 x with
    | none => rw [t] at p; exact p
    | some k =>
      rw [t] at p
      cases k with
      | true =>
        intro H1 ω1 l r1
        rw [if_pos rfl]
        exact ⟨ω1, σ, h1, e.mono l, r1, TP'.mono l p⟩
      | false =>
        intro H1 ω1 l r1
        rw [if_neg (by decide)]
        simp only [t] at p
        exact p H1 ω1 l r1
  | ex c fs h1 => rw [q] at p; exact p
  | bad => rw [q] at p; exact p
theorem tT_or {a b : Den} {Q : Bool → Hp → Prop} (q : tT K T Wx (dT (dOr a b)) s H Q) : tOr (tT K T Wx (dT a)) (tT K T Wx (dT b)) s H Q := by
  obtain ⟨ω, σ, h, e, rr, p⟩ := q
  refine ⟨ω, σ, h, e, rr, ?_⟩
  unfold dT dOr at p
  unfold dT
  cases q : a σ h with
  | ok x h1 =>
    rw [q] at p
    simp only [R.andThen] at p ⊢
    cases t : truW h1 x with
    | none => rw [t] at p; exact p
    | some k =>
      rw [t] at p
      cases k with
      | false =>
        intro H1 ω1 l r1
        rw [if_neg (by decide)]
        exact ⟨ω1, σ, h1, e.mono l, r1, TP'.mono l p⟩
      | true =>
        intro H1 ω1 l r1
        rw [if_pos rfl]
        simp only [t] at p
        exact p H1 ω1 l r1
  | ex c fs h1 => rw [q] at p; exact p
  | bad => rw [q] at p; exact p
theorem tT_not {a : Den} {Q : Bool → Hp → Prop} (q : tT K T Wx (dT (dNot a)) s H Q) : tNot (tT K T Wx (dT a)) s H Q := by
  obtain ⟨ω, σ, h, e, rr, p⟩ := q
  refine ⟨ω, σ, h, e, rr, ?_⟩
  unfold dT dNot at p
  unfold dT
  cases q : a σ h with
  | ok x h1 =>
    rw [q] at p
    simp only [R.andThen] at p ⊢
    cases t : truW h1 x with
    | none => rw [t] at p; exact p
    | some k => rw [t] at p; exact p
  | ex c fs h1 => rw [q] at p; exact p
  | bad => rw [q] at p; exact p
/-- as values -/
theorem tE_and {a b : Den} {Q : VK} (q : tE K T Wx (dAnd a b) s H Q) : tAndT K (tE K T Wx a) (tE K T Wx b) s H Q := by
  obtain ⟨ω, σ, h, e, rr, p⟩ := q
  refine tE_then (P := fun ω r => EP' K T Wx ω s Q r) e rr (fun _ _ _ z => z) (fun z => z) (fun x h1 u H1 ω1 l1 r1 rx p1 => ?_) p
  cases t : truW h1 x with
  | none => rw [t] at p1; exact p1.elim
  | some k =>
    rw [t] at p1
    refine ⟨k, tru_at r1 rx t, ?_⟩
    cases k with
    | true => rw [if_pos rfl]; exact ⟨ω1, σ, h1, e.mono l1, r1, EP'.mono l1 p1⟩
    | false => rw [if_neg (by decide)]; exact p1 u H1 ω1 l1 r1 rx
theorem tE_or {a b : Den} {Q : VK} (q : tE K T Wx (dOr a b) s H Q) : tOrT K (tE K T Wx a) (tE K T Wx b) s H Q := by
  obtain ⟨ω, σ, h, e, rr, p⟩ := q
  refine tE_then (P := fun ω r => EP' K T Wx ω s Q r) e rr (fun _ _ _ z => z) (fun z => z) (fun x h1 u H1 ω1 l1 r1 rx p1 => ?_) p
  cases t : truW h1 x with
  | none => rw [t] at p1; exact p1.elim
  | some k =>
    rw [t] at p1
    refine ⟨k, tru_at r1 rx t, ?_⟩
    cases k with
    | false => rw [if_neg (by decide)]; exact ⟨ω1, σ, h1, e.mono l1, r1, EP'.mono l1 p1⟩
    | true => rw [if_pos rfl]; exact p1 u H1 ω1 l1 r1 rx
theorem tE_not {a : Den} {Q : VK} (q : tE K T Wx (dNot a) s H Q) : tNotT K (tE K T Wx a) s H Q := by
  obtain ⟨ω, σ, h, e, rr, p⟩ := q
  refine tE_then (P := fun ω r => EP' K T Wx ω s Q r) e rr (fun _ _ _ z => z) (fun z => z) (fun x h1 u H1 ω1 l1 r1 rx p1 => ?_) p
  cases t : truW h1 x with
  | none => rw [t] at p1; exact p1.elim
  | some k =>
    rw [t] at p1
    exact ⟨k, tru_at r1 rx t, p1 _ H1 ω1 l1 r1 rfl⟩
theorem tE_if {c a b : Den} {Q : VK} (q : tE K T Wx (dIf c a b) s H Q) : tIf (tT K T Wx (dT c)) (tE K T Wx a) (tE K T Wx b) s H Q := by
  obtain ⟨ω, σ, h, e, rr, p⟩ := q
  refine tT_then (P := fun ω r => EP' K T Wx ω s Q r) e rr (fun _ _ _ z => z) (fun z => z) (fun k h1 H1 ω1 l1 r1 p1 => ?_) p
  cases k with
  | true => rw [if_pos rfl] at p1 ⊢; exact ⟨ω1, σ, h1, e.mono l1, r1, EP'.mono l1 p1⟩
  | false => rw [if_neg (by decide)] at p1 ⊢; exact ⟨ω1, σ, h1, e.mono l1, r1, EP'.mono l1 p1⟩
theorem tE_chain {r r' : R2} {f g : W → W → AH → Fo} {a b c : Den} (hf : OpS K T r f) (hg : OpS K T r' g) {Q : VK} (q : tE K T Wx (dChain f g a b c) s H Q) : tChain r r' (tE K T Wx a) (tE K T Wx b) (tE K T Wx c) s H Q := by
  obtain ⟨ω, σ, h, e, rr, p⟩ := q
  refine tE_then (P := fun ω r => EP' K T Wx ω s Q r) e rr (fun _ _ _ z => z) (fun z => z) (fun x h1 u H1 ω1 l1 r1 rx p1 => ?_) p
  refine tE_then (P := fun ω r => EP' K T Wx ω s Q r) (e.mono l1) r1 (fun _ _ _ z => z) (fun z => z) (fun y h2 v H2 ω2 l2 r2 ry p2 => ?_) (EP'.mono l1 p1)
  split at p2
  · rename_i h3 hz
    refine hf ω2 H2 h2 h3 x y (.bl true) u v _ r2 (rx.mono l2) ry hz fun w H' ω3 l3 r3 rw' => ?_
    obtain rfl : w = _ := rw'
    refine ⟨true, rfl, ?_⟩
    rw [if_pos rfl]
    refine tE_then (P := fun ω r => EP' K T Wx ω s Q r) (((e.mono l1).mono l2).mono l3) r3 (fun _ _ _ z => z) (fun z => z) (fun z h4 w' H4 ω4 l4 r4 rz p4 => ?_) (EP'.mono l3 (EP'.mono l2 p2))
    unfold R.opt at p4
    split at p4
    · rename_i z5 h5 hz5
      exact hg ω4 H4 h4 h5 y z z5 v w' Q r4 ((ry.mono l3).mono l4) rz hz5 fun w H' ω' l' r' rw' => p4 w H' ω' (l4.trans l') r' rw'
    · exact p4.elim
  · rename_i h3 hz
    refine hf ω2 H2 h2 h3 x y (.bl false) u v _ r2 (rx.mono l2) ry hz fun w H' ω3 l3 r3 rw' => ?_
    obtain rfl : w = _ := rw'
    refine ⟨false, rfl, ?_⟩
    rw [if_neg (by decide)]
    exact p2 _ H' ω3 (l2.trans l3) r3 rfl
  · exact p2.elim

/-! ### displays -/
def dTup (a : Ev → AH → R (List W)) : Den := fun σ h => (a σ h).andThen fun xs h1 => if xs.length ≤ 1000 then .ok (.tup xs) h1 else .bad
def dLst (m : Bool) (a : Ev → AH → R (List W)) : Den := fun σ h => (a σ h).andThen fun xs h1 => if xs.length ≤ 1000 then .opt (newL m xs h1) else .bad
theorem le1000 {n : Nat} (h : n ≤ 1000) : n ≤ sizeLine := Nat.le_trans h (by decide)
theorem tE_tup {a : Ev → AH → R (List W)} {Q : VK} (q : tE K T Wx (dTup a) s H Q) : tTup (tA K T Wx a) s H Q := by
  obtain ⟨ω, σ, h, e, rr, p⟩ := q
  refine tA_then (P := fun ω r => EP' K T Wx ω s Q r) e rr (fun _ _ _ z => z) (fun z => z) (fun xs h1 us H1 ω1 l1 r1 rx p1 => ?_) p
  split at p1
  · rename_i hl
    exact ⟨by rw [rx.length]; exact le1000 hl, newT_ok r1 rx (le1000 hl) fun w H' ω' l' r' rw' => p1 w H' ω' (l1.trans l') r' rw'⟩
  · exact p1.elim
theorem tE_lst {m : Bool} {a : Ev → AH → R (List W)} {Q : VK} (q : tE K T Wx (dLst m a) s H Q) : tLst (tA K T Wx a) s H Q := by
  obtain ⟨ω, σ, h, e, rr, p⟩ := q
  refine tA_then (P := fun ω r => EP' K T Wx ω s Q r) e rr (fun _ _ _ z => z) (fun z => z) (fun xs h1 us H1 ω1 l1 r1 rx p1 => ?_) p
  split at p1
  · rename_i hl
    unfold R.opt at p1
    split at p1
    · rename_i z h3 hz
      exact ⟨by rw [rx.length]; exact le1000 hl, newL_ok r1 rx (le1000 hl) hz fun w H' ω' l' r' rw' => p1 w H' ω' (l1.trans l') r' rw'⟩
    · exact p1.elim
  · exact p1.elim

/-! ### slices -/
/-- a part of a slice: nothing, or a whole number -/
def dPart (a : Option Den) : Ev → AH → R (Option Int) := fun σ h => match a with
  | none => .ok none h
  | some d => (d σ h).andThen fun x h1 => match x with
    | .int i => .ok (some i) h1
    | _ => .bad
def tO (K : PySem.W.Frag) (T : Tb) (Wx : WX) (d : Ev → AH → R (Option Int)) : TO := fun s H Q => ∃ ω σ h, ERel K T ω σ s ∧ HRel K T ω H h ∧ match d σ h with
  | .ok o h' => ∀ H' ω', ω.Le ω' → HRel K T ω' H' h' → Q o H'
  | .ex c fs h' => XP K T Wx ω s c fs h'
  | .bad => False
theorem po_to {X : Cx} {e : Option Expr} {t t' : TO} (h : PO X e t) (m : ∀ s H Q, t' s H Q → t s H Q) : PO X e t' := ⟨fun pins s σ H Q I q => h.run pins s σ H Q I (m σ H Q q)⟩
theorem s_po_none {X : Cx} : PO X none (tO X.K T Wx (dPart none)) := po_to po_none fun s H Q ⟨ω, σ, h, e, r, p⟩ => p H ω (Wo.Le.refl _) r
theorem s_po_some {X : Cx} {e : Expr} {d : Den} (he : PE X e (tE X.K T Wx d)) : PO X (some e) (tO X.K T Wx (dPart (some d))) := po_to (po_some he) fun s H Q ⟨ω, σ, h, e, r, p⟩ => by
  refine ⟨ω, σ, h, e, r, ?_⟩
  unfold dPart at p
  simp only at p
  cases q : d σ h with
  | ok x h1 =>
    rw [q] at p
    simp only [R.andThen] at p
    cases x with
    | int i =>
      intro v H' ω' l r' rx
      obtain rfl : v = _ := rx
      exact ⟨i, rfl, p H' ω' l r'⟩
    | _ => exact p.elim
  | ex c fs h1 => rw [q] at p; exact p
  | bad => rw [q] at p; exact p
def dSl (m : Bool) (a : Den) (lo hi : Ev → AH → R (Option Int)) : Den := fun σ h => (a σ h).andThen fun x h1 => (lo σ h1).andThen fun l h2 => (hi σ h2).andThen fun u h3 => .opt (slF m l u x h3)
theorem tE_sl {m : Bool} {a : Den} {lo hi : Ev → AH → R (Option Int)} {Q : VK} (q : tE K T Wx (dSl m a lo hi) s H Q) : tSl (rSlW K) (tE K T Wx a) (tO K T Wx lo) (tO K T Wx hi) s H Q := by
  obtain ⟨ω, σ, h, e, rr, p⟩ := q
  refine tE_then (P := fun ω r => EP' K T Wx ω s Q r) e rr (fun _ _ _ z => z) (fun z => z) (fun x h1 u H1 ω1 l1 r1 rx p1 => ?_) p
  refine ⟨ω1, σ, h1, e.mono l1, r1, ?_⟩
  cases q1 : lo σ h1 with
  | bad => rw [q1] at p1; exact p1.elim
  | ex c fs h2 => rw [q1] at p1; exact XP.mono l1 p1
  | ok l h2 =>
    rw [q1] at p1
    intro H2 ω2 l2 r2
    refine ⟨ω2, σ, h2, (e.mono l1).mono l2, r2, ?_⟩
    cases q2 : hi σ h2 with
    | bad => simp only [R.andThen, q2] at p1; exact p1.elim
    | ex c fs h3 => simp only [R.andThen, q2] at p1; exact XP.mono l2 (XP.mono l1 p1)
    | ok uu h3 =>
      simp only [R.andThen, q2] at p1
      intro H3 ω3 l3 r3
      unfold R.opt at p1
      split at p1
      · rename_i z h4 hz
        exact S_sl r3 ((rx.mono l2).mono l3) hz fun w H' ω' l' r' rw' => p1 w H' ω' (((l1.trans l2).trans l3).trans l') r' rw'
      · exact p1.elim
/-- xs[::-1] -/
def revF (m : Bool) : W → AH → Fo := fun x h => match lstOf h x with
  | some xs => newL m xs.reverse h
  | none => none
theorem tE_rev {m : Bool} {a : Den} {Q : VK} (q : tE K T Wx (dUn (revF m) a) s H Q) : tRevL K (tE K T Wx a) s H Q := by
  refine tE_un (r := fun x H1 Q => ∃ a xs, x = .ref a ∧ SqL K H1 a xs ∧ ∀ p, H1 p = none → Q (.ref p) (upd H1 p (.lst xs.reverse))) ?_ q
  intro ω H h h' x z u Q r rx e a
  unfold revF at e
  split at e
  · rename_i xs hx
    obtain ⟨p, vs, rfl, s1, z1, r1⟩ := lst_at r rx hx
    exact ⟨p, vs, rfl, s1, newL_ok r r1.reverse (by rw [List.length_reverse]; exact z1) e a⟩
  · cases e

/-! ### methods of built-in classes -/
def dMt (f : W → List W → AH → Fo) (o : Den) (a : Ev → AH → R (List W)) : Den := fun σ h => (o σ h).andThen fun x h1 => (a σ h1).andThen fun xs h2 => .opt (f x xs h2)
/-- the object is a list -/
def isLst (h : AH) (x : W) : Bool := match lstOf h x with
  | some _ => true
  | none => false
def dMtL (f : W → List W → AH → Fo) (o : Den) (a : Ev → AH → R (List W)) : Den := fun σ h => (o σ h).andThen fun x h1 => if isLst h1 x = true then (a σ h1).andThen fun xs h2 => .opt (f x xs h2) else .bad
theorem tyV_lst (r : HRel K T ω H h) {x : W} {u : V} (rx : Rep K T ω x u) (e : isLst h x = true) : tyV K "list" u H := by
  unfold isLst at e
  split at e
  · rename_i xs hx
    obtain ⟨p, vs, rfl, s1, z1, r1⟩ := lst_at r rx hx
    exact .inl ⟨rfl, vs, s1⟩
  · cases e
theorem tE_mtL {r : V → List V → Hp → VK → Prop} {f : W → List W → AH → Fo} {o : Den} {a : Ev → AH → R (List W)} (hf : MtS K T "list" r f) {Q : VK} (q : tE K T Wx (dMtL f o a) s H Q) : tBM K "list" r (tE K T Wx o) (tA K T Wx a) s H Q := by
  obtain ⟨ω, σ, h, e, rr, p⟩ := q
  refine tE_then (P := fun ω r => EP' K T Wx ω s Q r) e rr (fun _ _ _ z => z) (fun z => z) (fun x h1 u H1 ω1 l1 r1 rx p1 => ?_) p
  split at p1
  · rename_i ht
    refine ⟨tyV_lst r1 rx ht, ?_⟩
    refine tA_then (P := fun ω r => EP' K T Wx ω s Q r) (e.mono l1) r1 (fun _ _ _ z => z) (fun z => z) (fun xs h2 us H2 ω2 l2 r2 rxs p2 => ?_) (EP'.mono l1 p1)
    unfold R.opt at p2
    split at p2
    · rename_i z h3 hz
      exact hf ω2 H2 h2 h3 x xs z u us Q r2 (rx.mono l2) rxs hz fun w H' ω' l' r' rw' => p2 w H' ω' (l2.trans l') r' rw'
    · exact p2.elim
  · exact p1.elim
theorem tE_mtL0 {r : V → List V → Hp → VK → Prop} {f : W → List W → AH → Fo} {o : Den} (hf : MtS K T "list" r f) {Q : VK} (q : tE K T Wx (dMtL f o dNil) s H Q) : tBM0 K "list" r (tE K T Wx o) s H Q := by
  obtain ⟨ω, σ, h, e, rr, p⟩ := q
  refine tE_then (P := fun ω r => EP' K T Wx ω s Q r) e rr (fun _ _ _ z => z) (fun z => z) (fun x h1 u H1 ω1 l1 r1 rx p1 => ?_) p
  split at p1
  · rename_i ht
    refine ⟨tyV_lst r1 rx ht, ?_⟩
    unfold dNil R.andThen R.opt at p1
    simp only at p1
    split at p1
    · rename_i z h3 hz
      exact hf ω1 H1 h1 h3 x [] z u [] Q r1 rx rfl hz fun w H' ω' l' r' rw' => p1 w H' ω' (l1.trans l') r' rw'
    · exact p1.elim
  · exact p1.elim

/-! ### attributes -/
def fldF (f : Nat) (cs : List Nat) : W → AH → Fo
  | .loc n, h => match h[n]? with
    | some (.ins c fs) => if cs.contains c = true then match fs.lookup f with
      | some y => ret y h
      | none => none
      else none
    | _ => none
  | _, _ => none
theorem FRel.look {f : Nat} {y : Str} (hy : T.nm[f]? = some y) : ∀ {fs : List (Nat × W)} {gs : List (Str × V)} {x : W}, FRel K T ω fs gs → fs.lookup f = some x → ∃ v, gs.lookup y = some v ∧ Rep K T ω x v
  | [], _, _, _, e => by simp at e
  | (g, w) :: fs, _, x, ⟨yg, v, t, hg, e, r, q⟩, ex => by
    subst e
    by_cases hfg : f = g
    · subst hfg
      rw [List.lookup_cons_self] at ex
      rw [hy] at hg
      cases hg; cases ex
      exact ⟨v, by rw [List.lookup_cons_self], r⟩
    · have hne : ¬ y = yg := fun z => by
        subst z
        have h1 := List.getElem?_eq_some_iff.mp hy
        have h2 := List.getElem?_eq_some_iff.mp hg
        exact hfg ((List.getElem_inj T.nd).mp (h1.2.trans h2.2.symm))
      rw [List.lookup_cons, beq_eq_false_iff_ne.mpr hfg] at ex
      obtain ⟨v', a, b⟩ := FRel.look hy q ex
      exact ⟨v', by rw [List.lookup_cons, beq_eq_false_iff_ne.mpr hne]; exact a, b⟩
/-- attributes, one of them stored -/
def putW (f : Nat) (v : W) : List (Nat × W) → List (Nat × W)
  | [] => [(f, v)]
  | (g, w) :: r => if g = f then (g, v) :: r else (g, w) :: putW f v r
theorem FRel.put {f : Nat} {y : Str} (hy : T.nm[f]? = some y) {x : W} {v : V} (rx : Rep K T ω x v) : ∀ {fs : List (Nat × W)} {gs : List (Str × V)}, FRel K T ω fs gs → FRel K T ω (putW f x fs) (putF y v gs)
  | [], _, e => by rw [show _ = [] from e]; exact ⟨y, v, [], hy, rfl, rx, rfl⟩
  | (g, w) :: fs, _, ⟨yg, u, t, hg, e, r, q⟩ => by
    subst e
    by_cases hfg : g = f
    · subst hfg
      rw [hy] at hg
      cases hg
      have e1 : putW g x ((g, w) :: fs) = (g, x) :: fs := by unfold putW; rw [if_pos rfl]
      have e2 : putF y v ((y, u) :: t) = (y, v) :: t := by unfold putF; rw [if_pos rfl]
      rw [e1, e2]
      exact ⟨y, v, t, hy, rfl, rx, q⟩
    · have hne : ¬ yg = y := fun z => by
        subst z
        have h1 := List.getElem?_eq_some_iff.mp hy
        have h2 := List.getElem?_eq_some_iff.mp hg
        exact hfg ((List.getElem_inj T.nd).mp (h2.2.trans h1.2.symm))
      have e1 : putW f x ((g, w) :: fs) = (g, w) :: putW f x fs := by rw [putW, if_neg hfg]
      have e2 : putF y v ((yg, u) :: t) = (yg, u) :: putF y v t := by rw [putF, if_neg hne]
      rw [e1, e2]
      exact ⟨yg, u, _, hg, rfl, r, FRel.put hy rx q⟩
theorem FRel.length : ∀ {fs : List (Nat × W)} {gs : List (Str × V)}, FRel K T ω fs gs → gs.length = fs.length
  | [], _, e => by rw [show _ = [] from e]; rfl
  | _ :: _, _, ⟨_, _, _, _, e, _, q⟩ => by rw [e, List.length_cons, List.length_cons, FRel.length q]
/-- what is known of the classes cs and the attribute y -/
def AtOk (K : PySem.W.Frag) (T : Tb) (cs : List Nat) (y : Str) : Prop := ∀ c, c ∈ cs → Cls K (T.ca c) ∧ NoAttr K (T.ca c) y
theorem S_fld {f : Nat} {cs : List Nat} {y : Str} (hy : T.nm[f]? = some y) (hc : AtOk K T cs y) :
    UnS K T (fun x H1 Q => ∃ a C dx fs v, x = .ref a ∧ H1 a = some (.ins C dx fs) ∧ Cls K C ∧ NoAttr K C y ∧ fs.lookup y = some v ∧ Q v H1) (fldF f cs) := by
  intro ω H h h' x z u Q r rx e a
  unfold fldF at e
  split at e
  · rename_i n
    split at e
    · rename_i c fs ho
      split at e
      · rename_i hcs
        split at e
        · rename_i w hw
          obtain ⟨rfl, rfl⟩ := Prod.mk.inj (Option.some.inj e)
          obtain ⟨p, rfl, e2, dx, gs, e3, r1⟩ := obj_at r rx ho
          obtain ⟨v, hv, rv⟩ := r1.look hy hw
          obtain ⟨k1, k2⟩ := hc c (by simpa using hcs)
          exact ⟨p, _, dx, gs, v, rfl, e3, k1, k2, hv, a.pure r rv⟩
        · cases e
      · cases e
    · cases e
  · cases e
theorem tE_fld {f : Nat} {cs : List Nat} {y : Str} {d : Den} (hy : T.nm[f]? = some y) (hc : AtOk K T cs y) {Q : VK} (q : tE K T Wx (dUn (fldF f cs) d) s H Q) : tFld K (tE K T Wx d) y s H Q := tE_un (S_fld hy hc) q
end
end Dn
set_option Elab.async false
set_option linter.all false
set_option maxRecDepth 100000
set_option maxHeartbeats 2000000
namespace Dn
open PySem L2 Evl

/-! ### argument lists, of expressions without a star -/
def NoStar (e : Expr) : Prop := ∀ (r : List Expr) (env : Env), starEach (e :: r) env = (false, eval e env) :: starEach r env
theorem any_star (pos : Pos) (env : Env) : ∀ es : List Expr, (∀ e ∈ es, NoStar e) → (backTo pos (starEach es env)).any (·.1) = false
  | [], _ => rfl
  | e :: es, h => by
    rw [h e (List.mem_cons_self ..) es env]
    show (false || (backTo pos (starEach es env)).any (·.1)) = false
    rw [any_star pos env es fun x hx => h x (List.mem_cons_of_mem _ hx)]
    rfl
theorem all_star (pos : Pos) (env : Env) : ∀ es : List Expr, (∀ e ∈ es, NoStar e) → (backTo pos (starEach es env)).all (fun x => !x.1) = true
  | [], _ => rfl
  | e :: es, h => by
    rw [h e (List.mem_cons_self ..) es env]
    show (true && (backTo pos (starEach es env)).all (fun x => !x.1)) = true
    rw [all_star pos env es fun x hx => h x (List.mem_cons_of_mem _ hx)]
    rfl
/-- the names of keywords -/
def kwNames : List Keyword → Option (List Str)
  | [] => some []
  | ⟨some n, _, _⟩ :: r => (kwNames r).map (n :: ·)
  | ⟨none, _, _⟩ :: _ => none
theorem kw_facts (pos : Pos) (env : Env) : ∀ (kws : List Keyword) (ks : List Str), kwNames kws = some ks →
    (backToKw pos (keywordEach kws env)).all (·.1.isSome) = true ∧ (backToKw pos (keywordEach kws env)).any (·.1.isNone) = false ∧ (backToKw pos (keywordEach kws env)).filterMap (·.1) = ks
  | [], ks, e => by
    obtain rfl : [] = ks := Option.some.inj e
    exact ⟨rfl, rfl, rfl⟩
  | ⟨some n, x, p⟩ :: r, ks, e => by
    unfold kwNames at e
    cases q : kwNames r with
    | none => rw [q] at e; cases e
    | some ms =>
      rw [q] at e
      obtain rfl : n :: ms = ks := Option.some.inj e
      obtain ⟨h1, h2, h3⟩ := kw_facts pos env r ms q
      refine ⟨?_, ?_, ?_⟩
      · show (true && (backToKw pos (keywordEach r env)).all (·.1.isSome)) = true
        rw [h1]; rfl
      · show (false || (backToKw pos (keywordEach r env)).any (·.1.isNone)) = false
        rw [h2]; rfl
      · show n :: (backToKw pos (keywordEach r env)).filterMap (·.1) = n :: ms
        rw [h3]
  | ⟨none, _, _⟩ :: _, _, e => nomatch e

/-! ### how arguments come to the parameters -/
def pick {α : Type} (pm : List Nat) (l : List α) : List α := pm.filterMap (l[·]?)
theorem Vals.pick {vs : List V} {us : List Value} (r : Vals vs us) : ∀ pm : List Nat, Vals (Dn.pick pm vs) (Dn.pick pm us)
  | [] => .nil
  | i :: pm => by
    unfold Dn.pick
    rw [List.filterMap_cons, List.filterMap_cons]
    cases q : vs[i]? with
    | none => rw [r.none_of q]; exact Vals.pick r pm
    | some v =>
      obtain ⟨u, hu, ru⟩ := r.get q
      rw [hu]
      exact .cons ru (Vals.pick r pm)
theorem RepL.pick {K : PySem.W.Frag} {T : Tb} {ω : Wo} {xs : List W} {vs : List V} (r : RepL K T ω xs vs) : ∀ pm : List Nat, RepL K T ω (Dn.pick pm xs) (Dn.pick pm vs)
  | [] => rfl
  | i :: pm => by
    unfold Dn.pick
    rw [List.filterMap_cons, List.filterMap_cons]
    cases q : xs[i]? with
    | none =>
      have : vs[i]? = none := by
        rw [List.getElem?_eq_none_iff] at q ⊢
        rw [r.length]; exact q
      rw [this]; exact RepL.pick r pm
    | some v =>
      obtain ⟨u, hu, ru⟩ := r.get q
      rw [hu]
      exact ⟨u, _, rfl, ru, RepL.pick r pm⟩
/-- a call of n positional values and of keywords ks; dv, du: the defaults -/
structure Shape (K : PySem.W.Frag) (fd : FuncData) (ps : List Str) (n : Nat) (ks : List Str) (pm : List Nat) (dv : List V) (du : List Value) : Prop where
  to : ∀ (s : Shared) (us ws : List Value), K.In s.heap → us.length = n → ws.length = ks.length → BindsTo s fd ⟨us, ks.zip ws⟩ (ps.zip (pick pm (us ++ ws ++ du)))
  dfl : Vals dv du
/-- a def's promise: it answers as fn does, from n values -/
def spD (K : PySem.W.Frag) (T : Tb) (n : Nat) (fn : List W → AH → R W) : Sp := fun vs H Q E => ∃ ω ws h, RepL K T ω ws vs ∧ HRel K T ω H h ∧ ws.length = n ∧ match fn ws h with
  | .ok x h' => After K T ω Q x h'
  | .ex c fs h' => ∀ H' ω' d gs, ω.Le ω' → HRel K T ω' H' h' → ω'.F d = some (.xd gs) → FRel K T ω' fs gs → E (.ref (T.ca c)) (some d) H'
  | .bad => False
theorem spD_len {K : PySem.W.Frag} {T : Tb} {n : Nat} {fn : List W → AH → R W} (vs : List V) (H : Hp) (Q : VK) (E : XK) (h : spD K T n fn vs H Q E) : vs.length = n := by
  obtain ⟨ω, ws, h, r, _, e, _⟩ := h
  rw [r.length, e]

section
variable {X : Cx} {T : Tb} {Wx : WX} {k : Nat} {f C : Addr} {fd : FuncData} {ps ks : List Str} {n : Nat} {pm : List Nat} {dv : List V} {du : List Value} {fn : List W → AH → R W}
/-- the callee runs -/
theorem run_sh {pins : List (Addr × Obj)} {σ : L2.St} {H : Hp} {s : Shared} {Q : VK} {us ws : List Value} {vs zs : List V} {sp : Sp} (F : FnOk X.prog X.w X.K X.mg X.base (L2.CX X.prog X.w) k f fd ps sp) (hr : Room k X.A) (tk : Takes X Wx)
    (hb : Shape X.K fd ps n ks pm dv du) (I : Inv X pins σ H s) (r : Vals vs us) (rz : Vals zs ws) (l1 : vs.length = n) (l2 : zs.length = ks.length) (h : sp (pick pm (vs ++ zs ++ dv)) H Q (WE Wx σ)) :
    wpAny (model X.prog X.w) X.A (call (.ref f) us (ks.zip ws)) (EP X pins σ Q) X.xe s := by
  have e1 : us.length = n := r.length.symm.trans l1
  have e2 : ws.length = ks.length := rz.length.symm.trans l2
  refine wpAny_call (codeAny_mono (F.run X.A X.stack s H ⟨us, ks.zip ws⟩ _ _ Q (WE Wx σ) hr I.env0 (hb.to s us ws I.kIn e1 e2) (Vals.pick ((r.append rz).append hb.dfl) pm) h) fun rr s' hq => ?_)
  cases rr with
  | error e => exact passAt tk σ pins H s e s' I hq
  | ok fl =>
    cases fl with
    | ret u => exact I.after hq
    | next => exact False.elim hq
    | brk => exact False.elim hq
    | cont => exact False.elim hq
/-- an instance is made -/
theorem run_mk {pins : List (Addr × Obj)} {σ : L2.St} {H : Hp} {s : Shared} {Q : VK} {us ws : List Value} {vs zs : List V} {sp : Sp} (M : Mk X.K C f) (F : FnOk X.prog X.w X.K X.mg X.base (L2.CX X.prog X.w) k f fd ps sp) (hr : Room (k + 1) X.A) (tk : Takes X Wx)
    (hb : Shape X.K fd ps (n + 1) ks pm dv du) (I : Inv X pins σ H s) (r : Vals vs us) (rz : Vals zs ws) (l1 : vs.length = n) (l2 : zs.length = ks.length)
    (h : ∀ x dx, H x = none → H dx = none → dx ≠ x → sp (pick pm (V.ref x :: vs ++ zs ++ dv)) (upd (upd H dx (.own x)) x (.ins C dx [])) (fun v H2 => v = .non ∧ Q (.ref x) H2) (WE Wx σ)) :
    wpAny (model X.prog X.w) X.A (call (.ref C) us (ks.zip ws)) (EP X pins σ Q) X.xe s := by
  have hq := h (s.heap.objs.size + 1) s.heap.objs.size (I.hok.fresh (Nat.le_succ _)) (I.hok.fresh (Nat.le_refl _)) (Nat.ne_of_lt (Nat.lt_succ_self _))
  have I2 := Inv.made (C := C) I
  have r1 : Vals (V.ref (s.heap.objs.size + 1) :: vs) (Value.ref (s.heap.objs.size + 1) :: us) := .cons rfl r
  have e1 : (Value.ref (s.heap.objs.size + 1) :: us).length = n + 1 := r1.length.symm.trans (congrArg Nat.succ l1)
  have e2 : ws.length = ks.length := rz.length.symm.trans l2
  refine wpAny_call (make_map (f := f) I.kIn M.makes M.init (beq_iff_eq.mp M.fn) (codeAny_mono (F.run _ X.stack _ _ ⟨Value.ref (s.heap.objs.size + 1) :: us, ks.zip ws⟩ _ _ _ (WE Wx σ) (hr.make C us (ks.zip ws))
    (I2.env0.make C us (ks.zip ws)) (hb.to _ (Value.ref (s.heap.objs.size + 1) :: us) ws I2.kIn e1 e2) (Vals.pick ((r1.append rz).append hb.dfl) pm) hq) fun rr s' hq' => ?_))
  cases rr with
  | error e => exact passAt tk σ pins _ _ e s' I2 hq'
  | ok fl =>
    cases fl with
    | ret u =>
      obtain ⟨v, H', I3, rv, ev, q3⟩ := I2.after hq'
      subst ev
      exact ⟨rv, ⟨V.ref (s.heap.objs.size + 1), H', I3, rfl, q3⟩⟩
    | next => exact False.elim hq'
    | brk => exact False.elim hq'
    | cont => exact False.elim hq'

/-- what the arguments ask: positional ones, then those by keywords -/
def tArgs (es : List Expr) (ta tk : TA) (σ : L2.St) (H : Hp) (P : List V → List V → Hp → Prop) : Prop :=
  (es = [] → tk σ H fun zs H2 => P [] zs H2) ∧ (es ≠ [] → ta σ H fun vs H1 => tk σ H1 fun zs H2 => P vs zs H2)
/-- the arguments of a call, then what is called -/
theorem args_run {pos : Pos} {es : List Expr} {kws : List Keyword} {ta tk : TA} {fv : Value} {first : List Value} {pins : List (Addr × Obj)} {σ : L2.St} {H : Hp} {s : Shared} {Q : Value → Shared → Prop} (I : Inv X pins σ H s)
    (hkp : PySem.W.keepIn X.K fv = true) (hs : ∀ e ∈ es, NoStar e) (hks : kwNames kws = some ks) (ha : PA X es ta) (hkw : PK X kws tk) {P : List V → List V → Hp → Prop} (h : tArgs es ta tk σ H P)
    (hc : ∀ us ws vs zs s2 H2, Inv X pins σ H2 s2 → Vals vs us → Vals zs ws → P vs zs H2 → wpAny (model X.prog X.w) X.A (call fv (first ++ us) (ks.zip ws)) Q X.xe s2) :
    wpAny (model X.prog X.w) X.A (callWith pos fv first (backTo pos (starEach es X.env)) (backToKw pos (keywordEach kws X.env))) Q X.xe s := by
  obtain ⟨k1, k2, k3⟩ := kw_facts pos X.env kws ks hks
  have st := any_star pos X.env es hs
  cases es with
  | nil =>
    refine PySem.W.callWith_KW0 (h₀ := X.base) I.ok.mod.kin hkp k1 ?_ (by rw [k2]; rfl)
    refine thn (hkw.run pos pins s σ H _ I (h.1 rfl)) fun ws s2 ⟨zs, H2, I2, rz, q2⟩ => ⟨I2.kIn, ?_⟩
    rw [k3]
    exact hc [] ws [] zs s2 H2 I2 .nil rz q2
  | cons e es =>
    refine PySem.W.callWith_KW (h₀ := X.base) I.ok.mod.kin hkp k1 (thn (ha.run pos pins s σ H _ I (h.2 (fun z => nomatch z))) fun us s1 ⟨vs, H1, I1, r, q⟩ => ?_) (by rw [st, k2]; rfl) (hs e (List.mem_cons_self ..) es X.env)
    refine thn (hkw.run pos pins s1 σ H1 _ I1 q) fun ws s2 ⟨zs, H2, I2, rz, q2⟩ => ⟨I2.kIn, ?_⟩
    rw [k3]
    exact hc us ws vs zs s2 H2 I2 r rz q2

/-! ### the three calls -/
variable {x m : Str} {p pos apos : Pos} {es : List Expr} {kws : List Keyword} {o : Expr}
def R.ofCall {α : Type} (r : R α) : R α := r
/-- a call of a def -/
def dCall (fn : List W → AH → R W) (n m : Nat) (pm : List Nat) (dw : List W) (a b : Ev → AH → R (List W)) : Den := fun σ h => (a σ h).andThen fun vs h1 => (b σ h1).andThen fun zs h2 => if vs.length = n ∧ zs.length = m then fn (Dn.pick pm (vs ++ zs ++ dw)) h2 else .bad
theorem tA_args {K : PySem.W.Frag} {a b : Ev → AH → R (List W)} {β : Type} {kk : List W → List W → AH → R β} {ω : Wo} {σ : Ev} {s : L2.St} {H : Hp} {h : AH} {P : Wo → R β → Prop} {Pv : List V → List V → Hp → Prop} (hes : es = [] → a = dNil) (e : ERel K T ω σ s) (r : HRel K T ω H h)
    (hx : ∀ ω' c fs h', P ω' (.ex c fs h') → XP K T Wx ω' s c fs h') (hbad : ∀ ω', P ω' .bad → False) (hmono : ∀ ω ω' r, ω.Le ω' → P ω r → P ω' r)
    (hk : ∀ xs ys h2 vs zs H2 ω2, ω.Le ω2 → HRel K T ω2 H2 h2 → RepL K T ω2 xs vs → RepL K T ω2 ys zs → P ω2 (kk xs ys h2) → Pv vs zs H2)
    (p : P ω ((a σ h).andThen fun vs h1 => (b σ h1).andThen fun zs h2 => kk vs zs h2)) : tArgs es (tA K T Wx a) (tA K T Wx b) s H Pv := by
  refine ⟨fun h0 => ?_, fun _ => ?_⟩
  · have ea := hes h0
    subst ea
    simp only [dNil, R.andThen] at p
    exact tA_then (P := P) e r (hx ω) (hbad ω) (fun zs h2 us H2 ω2 l2 r2 rz p2 => hk [] zs h2 [] us H2 ω2 l2 r2 rfl rz (hmono _ _ _ l2 p2)) p
  · refine tA_then (P := P) e r (hx ω) (hbad ω) (fun xs h1 vs H1 ω1 l1 r1 rx p1 => ?_) p
    exact tA_then (P := P) (e.mono l1) r1 (hx ω1) (hbad ω1) (fun ys h2 zs H2 ω2 l2 r2 ry p2 => hk xs ys h2 vs zs H2 ω2 (l1.trans l2) r2 (rx.mono l2) ry (hmono _ _ _ l2 p2)) (hmono _ _ _ l1 p1)
/-- from a def's answer to its promise -/
theorem spD_of {K : PySem.W.Frag} {ω : Wo} {ws : List W} {vs : List V} {h : AH} {H : Hp} {s : L2.St} {Q : VK} {N : Nat} (rv : RepL K T ω ws vs) (r : HRel K T ω H h) (hl : ws.length = N) (p : EP' K T Wx ω s Q (fn ws h)) : spD K T N fn vs H Q (WE Wx s) := by
  refine ⟨ω, ws, h, rv, r, hl, ?_⟩
  cases q : fn ws h with
  | ok x h' => rw [q] at p; exact p
  | ex c fs h' => rw [q] at p; exact p
  | bad => rw [q] at p; exact p
/-- the number of parameters -/
def PmOk (pm : List Nat) (k N : Nat) : Prop := pm.length = N ∧ ∀ i ∈ pm, i < k
theorem pick_len {α : Type} {k : Nat} {l : List α} (hl : l.length = k) : ∀ {pm : List Nat}, (∀ i ∈ pm, i < k) → (pick pm l).length = pm.length
  | [], _ => rfl
  | i :: pm, h => by
    have hi := h i (List.mem_cons_self ..)
    unfold pick
    rw [List.filterMap_cons, List.getElem?_eq_getElem (by omega)]
    show (pick pm l).length + 1 = _
    rw [pick_len hl fun j hj => h j (List.mem_cons_of_mem _ hj)]; rfl
theorem s_call {a b : Ev → AH → R (List W)} {N : Nat} {dw : List W} (F : FnOk X.prog X.w X.K X.mg X.base (L2.CX X.prog X.w) k f fd ps (spD X.K T N fn)) (hr : Room k X.A) (tk : Takes X Wx) (hg : Gl X x) (hm : X.mg x = some (.ref f)) (hkp : PySem.W.keepIn X.K (.ref f) = true)
    (hb : Shape X.K fd ps n ks pm dv du) (hd : ∀ ω, RepL X.K T ω dw dv) (hp : PmOk pm (n + ks.length + dw.length) N) (hs : ∀ e ∈ es, NoStar e) (hks : kwNames kws = some ks) (ha : PA X es (tA X.K T Wx a)) (hkw : PK X kws (tA X.K T Wx b)) (hes : es = [] → a = dNil)
    (hdb : (x == ("__debug__" : Str)) = false) : PE X (.Call (.Name x p) es kws pos) (tE X.K T Wx (dCall fn n ks.length pm dw a b)) := by
  refine ⟨fun pins s σ H Q I hq => ?_⟩
  obtain ⟨ω, σa, h, e, r, pp⟩ := hq
  refine wpAny_Call_Name_kw (ld_glob I hg hm ?_ hdb)
  refine args_run (first := []) (P := fun vs zs H2 => vs.length = n ∧ zs.length = ks.length ∧ spD X.K T N fn (pick pm (vs ++ zs ++ dv)) H2 Q (WE Wx σ)) I hkp hs hks ha hkw (tA_args (P := fun ω r => EP' X.K T Wx ω σ Q r) hes e r (fun _ _ _ _ z => z) (fun _ z => z) (fun _ _ _ l z => EP'.mono l z) (fun xs ys h2 vs zs H2 ω2 l2 r2 rx ry p2 => ?_) pp) fun us ws vs zs s2 H2 I2 rv rz q => ?_
  · split at p2
    · rename_i hl
      have hlx := rx.length
      have hly := ry.length
      refine ⟨by rw [hlx]; exact hl.1, by rw [hly]; exact hl.2, spD_of (((rx.append ry).append (hd ω2)).pick pm) r2 ?_ p2⟩
      rw [pick_len (k := n + ks.length + dw.length) (by rw [List.length_append, List.length_append, hl.1, hl.2]) hp.2]
      exact hp.1
    · exact p2.elim
  · exact run_sh F hr tk hb I2 rv rz q.1 q.2.1 q.2.2
/-- o.m(..) -/
def dMeth (fn : List W → AH → R W) (cs : List Nat) (mth : Nat) (n m : Nat) (pm : List Nat) (dw : List W) (o : Den) (a b : Ev → AH → R (List W)) : Den := fun σ h => (o σ h).andThen fun x h0 => match x with
  | .loc i => match h0[i]? with
    | some (.ins c fs) => if cs.contains c = true ∧ fs.lookup mth = none then (a σ h0).andThen fun vs h1 => (b σ h1).andThen fun zs h2 => if vs.length = n ∧ zs.length = m then fn (Dn.pick pm (x :: vs ++ zs ++ dw)) h2 else .bad
      else .bad
    | _ => .bad
  | _ => .bad
/-- C(..): c the class, fn its __init__ -/
def dMake (fn : List W → AH → R W) (c : Nat) (n m : Nat) (pm : List Nat) (dw : List W) (a b : Ev → AH → R (List W)) : Den := fun σ h => (a σ h).andThen fun vs h1 => (b σ h1).andThen fun zs h2 =>
  if vs.length = n ∧ zs.length = m then (fn (Dn.pick pm (.loc h2.length :: vs ++ zs ++ dw)) (h2 ++ [.ins c []])).andThen fun r h3 => match r with
    | .non => .ok (.loc h2.length) h3
    | _ => .bad
  else .bad
theorem FRel.none {K : PySem.W.Frag} {ω : Wo} {mth : Nat} {y : Str} (hy : T.nm[mth]? = some y) : ∀ {fs : List (Nat × W)} {gs : List (Str × V)}, FRel K T ω fs gs → fs.lookup mth = Option.none → gs.lookup y = Option.none
  | [], _, e, _ => by rw [show _ = [] from e]; rfl
  | (g, w) :: fs, _, ⟨yg, v, t, hg, e, r, q⟩, ex => by
    subst e
    by_cases hfg : mth = g
    · subst hfg
      rw [List.lookup_cons_self] at ex; cases ex
    · have hne : ¬ y = yg := fun z => by
        subst z
        have h1 := List.getElem?_eq_some_iff.mp hy
        have h2 := List.getElem?_eq_some_iff.mp hg
        exact hfg ((List.getElem_inj T.nd).mp (h1.2.trans h2.2.symm))
      rw [List.lookup_cons, beq_eq_false_iff_ne.mpr hfg] at ex
      rw [List.lookup_cons, beq_eq_false_iff_ne.mpr hne]
      exact FRel.none hy q ex
theorem s_meth {pl : Sem Bool} {a b : Ev → AH → R (List W)} {d : Den} {N mth c : Nat} {dw : List W} {y : Str} (ho : PE X o (tE X.K T Wx d)) (F : FnOk X.prog X.w X.K X.mg X.base (L2.CX X.prog X.w) k f fd ps (spD X.K T N fn)) (hr : Room k X.A) (tk : Takes X Wx)
    (hy : T.nm[mth]? = some y) (hc : Cls X.K (T.ca c)) (hM : Meth X.K (T.ca c) y f)
    (hb : Shape X.K fd ps (n + 1) ks pm dv du) (hd : ∀ ω, RepL X.K T ω dw dv) (hp : PmOk pm (n + 1 + ks.length + dw.length) N) (hs : ∀ e ∈ es, NoStar e) (hks : kwNames kws = some ks) (ha : PA X es (tA X.K T Wx a)) (hkw : PK X kws (tA X.K T Wx b)) (hes : es = [] → a = dNil)
    (ht : eval (.Call (.Attribute o y apos) es kws pos) X.env = (do
      let ov ← eval o X.env
      standAt apos.atName
      let (f, first) ← holding [ov] (getMethod ov y pl)
      callWith pos f first (backTo pos (starEach es X.env)) (backToKw pos (keywordEach kws X.env)))) :
    PE X (.Call (.Attribute o y apos) es kws pos) (tE X.K T Wx (dMeth fn [c] mth n ks.length pm dw d a b)) := by
  refine ⟨fun pins s σ H Q I hq => ?_⟩
  obtain ⟨ω, σa, h, e, r, pp⟩ := hq
  have h0 : tE X.K T Wx d σ H fun xv H1 => ∃ p dx gs, xv = .ref p ∧ H1 p = some (.ins (T.ca c) dx gs) ∧ gs.lookup y = none ∧ tArgs es (tA X.K T Wx a) (tA X.K T Wx b) σ H1 fun vs zs H2 => vs.length = n ∧ zs.length = ks.length ∧ spD X.K T N fn (pick pm (xv :: vs ++ zs ++ dv)) H2 Q (WE Wx σ) := by
    refine tE_then (P := fun ω r => EP' X.K T Wx ω σ Q r) e r (fun _ _ _ z => z) (fun z => z) (fun x h1 u H1 ω1 l1 r1 rx p1 => ?_) pp
    split at p1
    · rename_i i
      split at p1
      · rename_i c' fs hi
        split at p1
        · rename_i hcs
          obtain rfl : c' = c := by simpa using hcs.1
          obtain ⟨q, rfl, e2, dx, gs, e3, r2⟩ := obj_at r1 rx hi
          refine ⟨q, dx, gs, rfl, e3, FRel.none hy r2 hcs.2, tA_args (P := fun ω r => EP' X.K T Wx ω σ Q r) hes (e.mono l1) r1 (fun _ _ _ _ z => z) (fun _ z => z) (fun _ _ _ l z => EP'.mono l z) (fun xs ys h2 vs zs H2 ω2 l2 r2 rxs ry p2 => ?_) (EP'.mono l1 p1)⟩
          split at p2
          · rename_i hl
            have hlx := rxs.length
            have hly := ry.length
            have rself : RepL X.K T ω2 (.loc i :: xs) (.ref q :: vs) := ⟨_, _, rfl, rx.mono l2, rxs⟩
            refine ⟨by rw [hlx]; exact hl.1, by rw [hly]; exact hl.2, spD_of (((rself.append ry).append (hd ω2)).pick pm) r2 ?_ p2⟩
            rw [pick_len (k := n + 1 + ks.length + dw.length) (by rw [List.length_append, List.length_append, List.length_cons, hl.1, hl.2]) hp.2]
            exact hp.1
          · exact p2.elim
        · exact p1.elim
      · exact p1.elim
    · exact p1.elim
  refine PySem.W.methodCall_KW (pl := pl) (thn (ho.run pins s σ H _ I h0) fun u s1 ⟨x, H1, I1, rx, q, dx, gs, ex, ea, hl, hargs⟩ => ?_) ht
  subst ex
  obtain rfl : u = Value.ref q := rx
  refine getmeth_ok I1 ea hc hM hl ?_
  exact args_run (first := [.ref q]) I1 hM.kp hs hks ha hkw hargs fun us ws vs zs s2 H2 I2 rv rz q' => run_sh (us := .ref q :: us) (vs := .ref q :: vs) F hr tk hb I2 (.cons rfl rv) rz (by rw [List.length_cons, q'.1]) q'.2.1 q'.2.2
theorem s_make {a b : Ev → AH → R (List W)} {N c : Nat} {dw : List W} (M : Mk X.K (T.ca c) f) (F : FnOk X.prog X.w X.K X.mg X.base (L2.CX X.prog X.w) k f fd ps (spD X.K T N fn)) (hr : Room (k + 1) X.A) (tk : Takes X Wx) (hg : Gl X x) (hm : X.mg x = some (.ref (T.ca c)))
    (hb : Shape X.K fd ps (n + 1) ks pm dv du) (hd : ∀ ω, RepL X.K T ω dw dv) (hp : PmOk pm (n + 1 + ks.length + dw.length) N) (hs : ∀ e ∈ es, NoStar e) (hks : kwNames kws = some ks) (ha : PA X es (tA X.K T Wx a)) (hkw : PK X kws (tA X.K T Wx b)) (hes : es = [] → a = dNil)
    (hdb : (x == ("__debug__" : Str)) = false) : PE X (.Call (.Name x p) es kws pos) (tE X.K T Wx (dMake fn c n ks.length pm dw a b)) := by
  refine ⟨fun pins s σ H Q I hq => ?_⟩
  obtain ⟨ω, σa, h, e, r, pp⟩ := hq
  refine wpAny_Call_Name_kw (ld_glob I hg hm ?_ hdb)
  refine args_run (first := []) (P := fun vs zs H2 => vs.length = n ∧ zs.length = ks.length ∧ ∀ x dx, H2 x = none → H2 dx = none → dx ≠ x →
    spD X.K T N fn (pick pm (V.ref x :: vs ++ zs ++ dv)) (upd (upd H2 dx (.own x)) x (.ins (T.ca c) dx [])) (fun v H3 => v = .non ∧ Q (.ref x) H3) (WE Wx σ)) I M.kp hs hks ha hkw (tA_args (P := fun ω r => EP' X.K T Wx ω σ Q r) hes e r (fun _ _ _ _ z => z) (fun _ z => z) (fun _ _ _ l z => EP'.mono l z) (fun xs ys h2 vs zs H2 ω2 l2 r2 rx ry p2 => ?_) pp) fun us ws vs zs s2 H2 I2 rv rz q => ?_
  · split at p2
    · rename_i hl
      have hlx := rx.length
      have hly := ry.length
      refine ⟨by rw [hlx]; exact hl.1, by rw [hly]; exact hl.2, fun x dx hx hdx hne => ?_⟩
      -- the instance's own dict, then the instance
      have rdx : HRel X.K T ω2 (upd H2 dx (.own x)) h2 := ⟨fun b u eb => by
          rw [upd_ne (ne_of_none (r2.fr b u eb) hdx)]; exact r2.fr b u eb, r2.len, r2.nd, r2.off, r2.gr.trans (Ex.new hdx), r2.offG, fun i u b hi hb => by
          have ne : b ≠ dx := fun z => r2.nρ hdx (z ▸ List.mem_of_getElem? hb)
          rw [upd_ne ne]; exact r2.at_ i u b hi hb⟩
      have hx' : (upd H2 dx (.own x)) x = none := by rw [upd_ne (Ne.symm hne)]; exact hx
      have rin : HRel X.K T (ω2.al x) (upd (upd H2 dx (.own x)) x (.ins (T.ca c) dx [])) (h2 ++ [.ins c []]) := rdx.al hx' ⟨dx, [], rfl, rfl⟩
      have la := ω2.leA x
      have rself : RepL X.K T (ω2.al x) (.loc h2.length :: xs) (.ref x :: vs) := ⟨_, _, rfl, ⟨x, rfl, rdx.alLoc x⟩, rx.mono la⟩
      refine spD_of (s := σ) (((rself.append (ry.mono la)).append (hd _)).pick pm) rin ?_ ?_
      · rw [pick_len (k := n + 1 + ks.length + dw.length) (by rw [List.length_append, List.length_append, List.length_cons, hl.1, hl.2]) hp.2]
        exact hp.1
      · cases q : fn (pick pm (.loc h2.length :: xs ++ ys ++ dw)) (h2 ++ [.ins c []]) with
        | ok y h3 =>
          rw [q] at p2
          simp only [R.andThen] at p2
          intro v H3 ω3 l3 r3 rv
          split at p2
          · exact ⟨rv, p2 (.ref x) H3 ω3 (la.trans l3) r3 ⟨x, rfl, l3.1 _ _ (rdx.alLoc x)⟩⟩
          · exact p2.elim
        | ex c' fs h3 =>
          rw [q] at p2
          exact XP.mono la p2
        | bad => rw [q] at p2; exact p2
    · exact p2.elim
  · exact run_mk M F hr tk hb I2 rv rz q.1 q.2.1 q.2.2
end
end Dn
set_option Elab.async false
set_option linter.all false
set_option maxRecDepth 100000
set_option maxHeartbeats 2000000
namespace Dn
open PySem L2 Evl

/-! ### statements in a row -/
def dSeq (a b : SDen) : SDen := fun σ h => match a σ h with
  | .nx σ1 h1 => b σ1 h1
  | r => r
def dNext : SDen := fun σ h => .nx σ h
/-- from an expression to a statement -/
def R.toS {α : Type} (r : R α) (σ : Ev) (k : α → AH → S) : S := match r with
  | .ok x h => k x h
  | .ex c fs h => .ex c fs σ h
  | .bad => .bad
def dSet (i : Nat) (d : Den) : SDen := fun σ h => (d σ h).toS σ fun x h1 => .nx (σ.set i (some x)) h1
def dDrop (d : Den) : SDen := fun σ h => (d σ h).toS σ fun _ h1 => .nx σ h1
def dRet (d : Den) : SDen := fun σ h => (d σ h).toS σ fun x h1 => .rt x h1
def dRetN : SDen := fun _ h => .rt .non h
def dIfS (c : Den) (a b : SDen) : SDen := fun σ h => (dT c σ h).toS σ fun k h1 => if k = true then a σ h1 else b σ h1
def dBrk : SDen := fun σ h => .bk σ h
def dCnt : SDen := fun σ h => .ct σ h
/-! targets -/
abbrev TDen := W → Ev → AH → S
def gN (i : Nat) : TDen := fun x σ h => .nx (σ.set i (some x)) h
def gsNil : List W → Ev → AH → S
  | [], σ, h => .nx σ h
  | _ :: _, _, _ => .bad
def gsCons (t : TDen) (u : List W → Ev → AH → S) : List W → Ev → AH → S
  | x :: r, σ, h => match t x σ h with
    | .nx σ1 h1 => u r σ1 h1
    | z => z
  | [], _, _ => .bad
def gTp (n : Nat) (u : List W → Ev → AH → S) : TDen := fun x σ h => match tupOf x with
  | some xs => if xs.length = n then u xs σ h else .bad
  | none => .bad
/-- xs[i] = x -/
def setF (o i x : W) (h : AH) : Option AH := match o, i with
  | .loc n, .int k => match h[n]? with
    | some (.lst xs) => match ixN xs.length k with
      | some j => some (h.set n (.lst (xs.set j x)))
      | none => none
    | _ => none
  | _, _ => none
def gSb (o i : Den) : TDen := fun x σ h => (o σ h).toS σ fun ov h1 => (i σ h1).toS σ fun iv h2 => match setF ov iv x h2 with
  | some h3 => .nx σ h3
  | none => .bad
def dAsg (d : Den) (g : TDen) : SDen := fun σ h => (d σ h).toS σ fun x h1 => g x σ h1
/-- o.f = x -/
def sfF (f : Nat) (cs : List Nat) (o x : W) (h : AH) : Option AH := match o with
  | .loc n => match h[n]? with
    | some (.ins c fs) => if cs.contains c = true ∧ fs.length < 1000 then some (h.set n (.ins c (putW f x fs))) else none
    | _ => none
  | _ => none
def dSetA (f : Nat) (cs : List Nat) (o d : Den) : SDen := fun σ h => (d σ h).toS σ fun x h1 => (o σ h1).toS σ fun ov h2 => match sfF f cs ov x h2 with
  | some h3 => .nx σ h3
  | none => .bad
/-- name op= e -/
def dAug (i : Nat) (f : W → W → AH → Fo) (d : Den) : SDen := fun σ h => match σ[i]? with
  | some (some x) => (d σ h).toS σ fun y h1 => match f x y h1 with
    | some (z, h2) => .nx (σ.set i (some z)) h2
    | none => .bad
  | _ => .bad
/-- x, y = a, b and x, y, z = a, b, c, of plain local names -/
def dPar (is : List Nat) (a : Ev → AH → R (List W)) : SDen := fun σ h => (a σ h).toS σ fun xs h1 => if xs.length = is.length then .nx ((is.zip xs).foldl (fun s p => s.set p.1 (some p.2)) σ) h1 else .bad

section
variable {K : PySem.W.Frag} {T : Tb} {Wx : WX} {ω ω' : Wo} {H H' : Hp} {h h' : AH} {s : L2.St} {D : Ends}
theorem toS_ex {σ : Ev} (e : ERel K T ω σ s) {c : Nat} {fs : List (Nat × W)} {h' : AH} (p : SP' K T Wx D ω (.ex c fs σ h')) : XP K T Wx ω s c fs h' := p s ω (Wo.Le.refl _) e
/-- an expression, then a statement's end -/
theorem tE_toS {d : Den} {Q : VK} {σ : Ev} (e : ERel K T ω σ s) (r : HRel K T ω H h) {k : W → AH → S} (hk : ∀ x h1 v H1 ω1, ω.Le ω1 → HRel K T ω1 H1 h1 → Rep K T ω1 x v → SP' K T Wx D ω1 (k x h1) → Q v H1) (p : SP' K T Wx D ω ((d σ h).toS σ k)) : tE K T Wx d s H Q := by
  refine ⟨ω, σ, h, e, r, ?_⟩
  cases q : d σ h with
  | ok x h1 =>
    rw [q] at p
    exact fun v H1 ω1 l r1 rx => hk x h1 v H1 ω1 l r1 rx (SP'.mono l p)
  | ex c fs h1 => rw [q] at p; exact toS_ex e p
  | bad => rw [q] at p; exact p
theorem tT_toS {d : Ev → AH → R Bool} {Q : Bool → Hp → Prop} {σ : Ev} (e : ERel K T ω σ s) (r : HRel K T ω H h) {k : Bool → AH → S} (hk : ∀ x h1 H1 ω1, ω.Le ω1 → HRel K T ω1 H1 h1 → SP' K T Wx D ω1 (k x h1) → Q x H1) (p : SP' K T Wx D ω ((d σ h).toS σ k)) : tT K T Wx d s H Q := by
  refine ⟨ω, σ, h, e, r, ?_⟩
  cases q : d σ h with
  | ok x h1 =>
    rw [q] at p
    exact fun H1 ω1 l r1 => hk x h1 H1 ω1 l r1 (SP'.mono l p)
  | ex c fs h1 => rw [q] at p; exact toS_ex e p
  | bad => rw [q] at p; exact p
theorem tA_toS {d : Ev → AH → R (List W)} {Q : List V → Hp → Prop} {σ : Ev} (e : ERel K T ω σ s) (r : HRel K T ω H h) {k : List W → AH → S} (hk : ∀ x h1 v H1 ω1, ω.Le ω1 → HRel K T ω1 H1 h1 → RepL K T ω1 x v → SP' K T Wx D ω1 (k x h1) → Q v H1) (p : SP' K T Wx D ω ((d σ h).toS σ k)) : tA K T Wx d s H Q := by
  refine ⟨ω, σ, h, e, r, ?_⟩
  cases q : d σ h with
  | ok x h1 =>
    rw [q] at p
    exact fun v H1 ω1 l r1 rx => hk x h1 v H1 ω1 l r1 rx (SP'.mono l p)
  | ex c fs h1 => rw [q] at p; exact toS_ex e p
  | bad => rw [q] at p; exact p
theorem S_nx {σ' : Ev} {s' : L2.St} (e : ERel K T ω σ' s') (r : HRel K T ω H h) (p : SP' K T Wx D ω (.nx σ' h)) : D.nx s' H := p s' H ω (Wo.Le.refl _) r e

theorem tS_next (q : tS K T Wx dNext D s H) : tNext D s H := by
  obtain ⟨ω, σ, h, e, r, p⟩ := q
  exact S_nx e r p
theorem tS_seq {a b : SDen} (q : tS K T Wx (dSeq a b) D s H) : tSeq (tS K T Wx a) (tS K T Wx b) D s H := by
  obtain ⟨ω, σ, h, e, r, p⟩ := q
  refine ⟨ω, σ, h, e, r, ?_⟩
  unfold dSeq at p
  cases q : a σ h with
  | nx σ1 h1 =>
    rw [q] at p
    exact fun s' H' ω1 l r1 e1 => ⟨ω1, σ1, h1, e1, r1, SP'.mono l p⟩
  | rt x h1 => rw [q] at p; exact p
  | bk σ1 h1 => rw [q] at p; exact p
  | ct σ1 h1 => rw [q] at p; exact p
  | ex c fs σ1 h1 => rw [q] at p; exact p
  | bad => rw [q] at p; exact p
theorem tS_set {i : Nat} {d : Den} (q : tS K T Wx (dSet i d) D s H) : tAsg (tE K T Wx d) (gName i) D s H := by
  obtain ⟨ω, σ, h, e, r, p⟩ := q
  exact tE_toS e r (fun x h1 v H1 ω1 l r1 rx p1 => S_nx ((e.mono l).set rx i) r1 p1) p
theorem tS_drop {d : Den} (q : tS K T Wx (dDrop d) D s H) : tDrop (tE K T Wx d) D s H := by
  obtain ⟨ω, σ, h, e, r, p⟩ := q
  exact tE_toS e r (fun x h1 v H1 ω1 l r1 rx p1 => S_nx (e.mono l) r1 p1) p
theorem tS_ret {d : Den} (q : tS K T Wx (dRet d) D s H) : tRet (tE K T Wx d) D s H := by
  obtain ⟨ω, σ, h, e, r, p⟩ := q
  refine tE_toS (k := fun x h1 => S.rt x h1) e r ?_ p
  intro x h1 v H1 ω1 l r1 rx p1
  exact p1 v H1 ω1 (Wo.Le.refl _) r1 rx
theorem tS_retN (q : tS K T Wx dRetN D s H) : tRetN D s H := by
  obtain ⟨ω, σ, h, e, r, p⟩ := q
  exact p .non H ω (Wo.Le.refl _) r rfl
theorem tS_brk (q : tS K T Wx dBrk D s H) : tBreak D s H := by
  obtain ⟨ω, σ, h, e, r, p⟩ := q
  exact p s H ω (Wo.Le.refl _) r e
theorem tS_cnt (q : tS K T Wx dCnt D s H) : tCont D s H := by
  obtain ⟨ω, σ, h, e, r, p⟩ := q
  exact p s H ω (Wo.Le.refl _) r e
theorem tS_if {c : Den} {a b : SDen} (q : tS K T Wx (dIfS c a b) D s H) : tIfS (tT K T Wx (dT c)) (tS K T Wx a) (tS K T Wx b) D s H := by
  obtain ⟨ω, σ, h, e, r, p⟩ := q
  refine tT_toS e r (fun k h1 H1 ω1 l r1 p1 => ?_) p
  cases k with
  | true => rw [if_pos rfl] at p1 ⊢; exact ⟨ω1, σ, h1, e.mono l, r1, p1⟩
  | false => rw [if_neg (by decide)] at p1 ⊢; exact ⟨ω1, σ, h1, e.mono l, r1, p1⟩

/-! ### targets -/
/-- what is wanted behind a store -/
def GP (K : PySem.W.Frag) (T : Tb) (Wx : WX) (s : L2.St) (ω : Wo) (Q : L2.St → Hp → Prop) : S → Prop
  | .nx σ' h' => ∀ s' H' ω', ω.Le ω' → HRel K T ω' H' h' → ERel K T ω' σ' s' → Q s' H'
  | _ => False
def tG (K : PySem.W.Frag) (T : Tb) (Wx : WX) (t : TDen) : TG := fun v s H Q => ∃ ω σ h x, ERel K T ω σ s ∧ HRel K T ω H h ∧ Rep K T ω x v ∧ GP K T Wx s ω Q (t x σ h)
def tGs (K : PySem.W.Frag) (T : Tb) (Wx : WX) (t : List W → Ev → AH → S) : TGs := fun vs s H Q => ∃ ω σ h xs, ERel K T ω σ s ∧ HRel K T ω H h ∧ RepL K T ω xs vs ∧ GP K T Wx s ω Q (t xs σ h)
theorem GP.mono (l : ω.Le ω') {Q : L2.St → Hp → Prop} {s' : L2.St} : ∀ {r : S}, GP K T Wx s ω Q r → GP K T Wx s' ω' Q r
  | .nx _ _, p => fun s2 H2 ω2 l2 => p s2 H2 ω2 (l.trans l2)
  | .rt _ _, p => p.elim
  | .bk _ _, p => p.elim
  | .ct _ _, p => p.elim
  | .ex _ _ _ _, p => p.elim
  | .bad, p => p.elim
theorem pg_to {X : Cx} {e : Expr} {t t' : TG} (hh : PG X e t) (m : ∀ v s H Q, t' v s H Q → t v s H Q) : PG X e t' := ⟨fun pins s σ H v u Q I r q => hh.run pins s σ H v u Q I r (m v σ H Q q)⟩
theorem pgs_to {X : Cx} {e : List Expr} {t t' : TGs} (hh : PGs X e t) (m : ∀ v s H Q, t' v s H Q → t v s H Q) : PGs X e t' := ⟨fun pins s σ H v u Q I r q => hh.run pins s σ H v u Q I r (m v σ H Q q)⟩
theorem tG_name {i : Nat} {v : V} {Q : L2.St → Hp → Prop} (q : tG K T Wx (gN i) v s H Q) : gName i v s H Q := by
  obtain ⟨ω, σ, h, x, e, r, rx, p⟩ := q
  exact p _ H ω (Wo.Le.refl _) r (e.set rx i)
theorem tGs_nil {vs : List V} {Q : L2.St → Hp → Prop} (q : tGs K T Wx gsNil vs s H Q) : gNil vs s H Q := by
  obtain ⟨ω, σ, h, xs, e, r, rx, p⟩ := q
  cases xs with
  | nil => exact ⟨rx, p s H ω (Wo.Le.refl _) r e⟩
  | cons x xs => exact p.elim
theorem tGs_cons {t : TDen} {u : List W → Ev → AH → S} {vs : List V} {Q : L2.St → Hp → Prop} (q : tGs K T Wx (gsCons t u) vs s H Q) : gCons (tG K T Wx t) (tGs K T Wx u) vs s H Q := by
  obtain ⟨ω, σ, h, xs, e, r, rx, p⟩ := q
  cases xs with
  | nil => exact p.elim
  | cons x xs =>
    obtain ⟨v, vr, rfl, r1, r2⟩ := rx
    refine ⟨v, vr, rfl, ω, σ, h, x, e, r, r1, ?_⟩
    simp only [gsCons] at p
    cases q : t x σ h with
    | nx σ1 h1 =>
      rw [q] at p
      exact fun s' H' ω1 l1 rr1 e1 => ⟨ω1, σ1, h1, xs, e1, rr1, r2.mono l1, GP.mono l1 p⟩
    | rt x h1 => rw [q] at p; exact p
    | bk σ1 h1 => rw [q] at p; exact p
    | ct σ1 h1 => rw [q] at p; exact p
    | ex c fs σ1 h1 => rw [q] at p; exact p
    | bad => rw [q] at p; exact p
theorem tG_tup {n : Nat} {u : List W → Ev → AH → S} {v : V} {Q : L2.St → Hp → Prop} (q : tG K T Wx (gTp n u) v s H Q) : gTup K n (tGs K T Wx u) v s H Q := by
  obtain ⟨ω, σ, h, x, e, r, rx, p⟩ := q
  unfold gTp at p
  split at p
  · rename_i xs hx
    split at p
    · rename_i hl
      obtain ⟨a, vs, rfl, s1, z1, r1⟩ := tup_at r rx hx
      exact ⟨a, vs, rfl, s1, by rw [r1.length]; exact hl, ω, σ, h, xs, e, r, r1, p⟩
    · exact p.elim
  · exact p.elim
theorem set_at (r : HRel K T ω H h) {o i x : W} {ov iv v : V} (ro : Rep K T ω o ov) (ri : Rep K T ω i iv) (rx : Rep K T ω x v) (e : setF o i x h = some h') {Q : Hp → Prop} (a : ∀ H', HRel K T ω H' h' → Q H') : rSetL ov iv v H Q := by
  unfold setF at e
  split at e
  · rename_i n k
    split at e
    · rename_i xs hx
      split at e
      · rename_i j hj
        obtain rfl := Option.some.inj e
        obtain ⟨p, rfl, e2, vs, e3, hz, r1⟩ := obj_at r ro hx
        obtain rfl : iv = _ := ri
        refine ⟨p, vs, k, j, rfl, rfl, e3, by rw [r1.length]; exact hj, a _ (r.wr e2 ⟨_, rfl, by rw [List.length_set]; exact hz, r1.set rx j⟩)⟩
      · cases e
    · cases e
  · cases e
/-- the target's own expressions raise nothing -/
theorem tG_sub {o i : Den} {v : V} {Q : L2.St → Hp → Prop} (q : tG K T Wx (gSb o i) v s H Q) : gSub (tE K T Wx o) (tE K T Wx i) rSetL v s H Q := by
  obtain ⟨ω, σ, h, x, e, r, rx, p⟩ := q
  refine ⟨ω, σ, h, e, r, ?_⟩
  unfold gSb at p
  cases q : o σ h with
  | bad => rw [q] at p; exact p
  | ex c fs h1 => rw [q] at p; exact p.elim
  | ok ov h1 =>
    rw [q] at p
    intro w H1 ω1 l1 r1 ro
    refine ⟨ω1, σ, h1, e.mono l1, r1, ?_⟩
    simp only [R.toS] at p
    cases q2 : i σ h1 with
    | bad => rw [q2] at p; exact p
    | ex c fs h2 => rw [q2] at p; exact p.elim
    | ok iv h2 =>
      rw [q2] at p
      simp only [R.toS] at p
      intro w2 H2 ω2 l2 r2 ri
      split at p
      · rename_i h3 hs
        exact set_at r2 (ro.mono l2) ri ((rx.mono l1).mono l2) hs fun H3 r3 => p s H3 ω2 (l1.trans l2) r3 ((e.mono l1).mono l2)
      · exact p.elim
/-- a statement that stores: its target raises nothing -/
def noEx : S → S
  | .nx σ h => .nx σ h
  | _ => .bad
def dAsgG (d : Den) (g : TDen) : SDen := fun σ h => (d σ h).toS σ fun x h1 => noEx (g x σ h1)
theorem GP_of {r : S} (p : SP' K T Wx D ω (noEx r)) : GP K T Wx s ω D.nx r := by
  cases r with
  | nx σ' h' => exact p
  | _ => exact p.elim
theorem tS_asg {d : Den} {g : TDen} (q : tS K T Wx (dAsgG d g) D s H) : tAsg (tE K T Wx d) (tG K T Wx g) D s H := by
  obtain ⟨ω, σ, h, e, r, p⟩ := q
  exact tE_toS e r (fun x h1 v H1 ω1 l r1 rx p1 => ⟨ω1, σ, h1, x, e.mono l, r1, rx, GP_of p1⟩) p
theorem tS_setA {f : Nat} {cs : List Nat} {y : Str} {o d : Den} (hy : T.nm[f]? = some y) (hc : AtOk K T cs y) (q : tS K T Wx (dSetA f cs o d) D s H) : sFld K (tE K T Wx o) (tE K T Wx d) y D s H := by
  obtain ⟨ω, σ, h, e, r, p⟩ := q
  refine tE_toS e r (fun x h1 v H1 ω1 l1 r1 rx p1 => ?_) p
  refine tE_toS (e.mono l1) r1 (fun ov h2 u H2 ω2 l2 r2 ro p2 => ?_) p1
  split at p2
  · rename_i h3 hs
    unfold sfF at hs
    split at hs
    · rename_i n
      split at hs
      · rename_i c fs hi
        split at hs
        · rename_i hcs
          obtain rfl := Option.some.inj hs
          obtain ⟨a, rfl, e2, dx, gs, e3, rg⟩ := obj_at r2 ro hi
          obtain ⟨k1, k2⟩ := hc c (by simpa using hcs.1)
          refine ⟨a, T.ca c, dx, gs, rfl, e3, k1, k2, by rw [FRel.length rg]; exact hcs.2, ?_⟩
          exact S_nx ((e.mono l1).mono l2) (r2.wr e2 (b := .ins c (putW f x fs)) ⟨dx, _, rfl, FRel.put hy (rx.mono l2) rg⟩) p2
        · cases hs
      · cases hs
    · cases hs
  · exact p2.elim
theorem len2 {α : Type} : ∀ {xs : List α}, xs.length = 2 → ∃ x y, xs = [x, y]
  | [x, y], _ => ⟨x, y, rfl⟩
theorem len3 {α : Type} : ∀ {xs : List α}, xs.length = 3 → ∃ x y z, xs = [x, y, z]
  | [x, y, z], _ => ⟨x, y, z, rfl⟩
theorem tS_par2 {i j : Nat} {a : Ev → AH → R (List W)} (q : tS K T Wx (dPar [i, j] a) D s H) : tPar i j (tA K T Wx a) D s H := by
  obtain ⟨ω, σ, h, e, r, p⟩ := q
  unfold dPar at p
  refine tA_toS e r ?_ p
  intro xs h1 vs H1 ω1 l r1 rx p1
  by_cases hl : xs.length = [i, j].length
  · rw [if_pos hl] at p1
    obtain ⟨x, y, rfl⟩ := len2 hl
    obtain ⟨u, v, rfl, ru, rv⟩ := RepL.two_of rx
    exact ⟨u, v, rfl, S_nx (((e.mono l).set ru i).set rv j) r1 p1⟩
  · rw [if_neg hl] at p1; exact p1.elim
theorem tS_par3 {i j k : Nat} {a : Ev → AH → R (List W)} (q : tS K T Wx (dPar [i, j, k] a) D s H) : tPar3 i j k (tA K T Wx a) D s H := by
  obtain ⟨ω, σ, h, e, r, p⟩ := q
  unfold dPar at p
  refine tA_toS e r ?_ p
  intro xs h1 vs H1 ω1 l r1 rx p1
  by_cases hl : xs.length = [i, j, k].length
  · rw [if_pos hl] at p1
    obtain ⟨x, y, z, rfl⟩ := len3 hl
    obtain ⟨u, t, rfl, ru, rt⟩ := rx
    obtain ⟨v, w, rfl, rv, rw'⟩ := RepL.two_of rt
    exact ⟨u, v, w, rfl, S_nx ((((e.mono l).set ru i).set rv j).set rw' k) r1 p1⟩
  · rw [if_neg hl] at p1; exact p1.elim
/-- the augmented operator, by values -/
def pipOf (r : R2) : TIp := fun x y H Q => r x y H Q
theorem tS_aug {i : Nat} {f : W → W → AH → Fo} {rr : R2} {d : Den} (hf : OpS K T rr f) (q : tS K T Wx (dAug i f d) D s H) : tAug i (tE K T Wx d) rr D s H := by
  obtain ⟨ω, σ, h, e, r, p⟩ := q
  unfold dAug at p
  split at p
  · rename_i x hx
    obtain ⟨v, hv, rv⟩ := e.2 i x hx
    refine ⟨v, hv, tE_toS e r (fun y h1 u H1 ω1 l r1 ry p1 => ?_) p⟩
    split at p1
    · rename_i z h2 hz
      exact hf ω1 H1 h1 h2 x y z v u _ r1 (rv.mono l) ry hz fun w H2 ω2 l2 r2 rz => p1 _ H2 ω2 l2 r2 (((e.mono l).mono l2).set rz i)
    · exact p1.elim
  · exact p.elim
end
end Dn
set_option Elab.async false
set_option linter.all false
set_option maxRecDepth 100000
set_option maxHeartbeats 400000
namespace Dn
open PySem L2 Evl

/-! ### worlds, whatever is another's -/
def Wo.Le0 (a b : Wo) : Prop := (∀ (n : Nat) p, a.ρ[n]? = some p → b.ρ[n]? = some p) ∧ Ex a.F b.F
theorem Wo.Le.to0 {a b : Wo} (l : a.Le b) : a.Le0 b := ⟨l.1, l.2.1⟩
theorem Wo.Le0.trans {a b c : Wo} (h : a.Le0 b) (k : b.Le0 c) : a.Le0 c := ⟨fun n p e => k.1 n p (h.1 n p e), h.2.trans k.2⟩
theorem Wo.Le0.refl (a : Wo) : a.Le0 a := ⟨fun _ _ h => h, Ex.refl _⟩
section
variable {K : PySem.W.Frag} {T : Tb} {ω ω' : Wo}
mutual
theorem Rep.mono0 (l : ω.Le0 ω') : ∀ {x : W} {v : V}, Rep K T ω x v → Rep K T ω' x v
  | .non, _, r => r
  | .bl _, _, r => r
  | .int _, _, r => r
  | .str _, _, r => r
  | .tup xs, _, ⟨a, vs, e, s, z, r⟩ => ⟨a, vs, e, ex_t l.2 s, z, RepL.mono0 l r⟩
  | .lst xs, _, ⟨a, vs, e, s, z, r⟩ => ⟨a, vs, e, ex_l l.2 s, z, RepL.mono0 l r⟩
  | .loc n, _, ⟨a, e, s⟩ => ⟨a, e, l.1 n a s⟩
  | .fn _, _, r => r
theorem RepL.mono0 (l : ω.Le0 ω') : ∀ {xs : List W} {vs : List V}, RepL K T ω xs vs → RepL K T ω' xs vs
  | [], _, r => r
  | _ :: _, _, ⟨v, t, e, r, s⟩ => ⟨v, t, e, Rep.mono0 l r, RepL.mono0 l s⟩
end
theorem FRel.mono0 (l : ω.Le0 ω') : ∀ {fs : List (Nat × W)} {gs : List (Str × V)}, FRel K T ω fs gs → FRel K T ω' fs gs
  | [], _, r => r
  | _ :: _, _, ⟨y, v, t, n, e, r, s⟩ => ⟨y, v, t, n, e, r.mono0 l, FRel.mono0 l s⟩
theorem ORel.mono0 (l : ω.Le0 ω') : ∀ {o : AO} {u : Option HO}, ORel K T ω o u → ORel K T ω' o u
  | .lst _, _, ⟨vs, e, z, r⟩ => ⟨vs, e, z, r.mono0 l⟩
  | .ins _ _, _, ⟨dx, gs, e, r⟩ => ⟨dx, gs, e, FRel.mono0 l r⟩
theorem ERel.mono0 (l : ω.Le0 ω') {σ : Ev} {s : L2.St} (e : ERel K T ω σ s) : ERel K T ω' σ s :=
  ⟨e.1, fun i x hx => let ⟨v, a, b⟩ := e.2 i x hx; ⟨v, a, b.mono0 l⟩⟩
end

/-! ### loops -/
/-- what is walked: the items as they stand -/
abbrev Src := AH → Option (List W)
abbrev IDen := Ev → AH → R Src
/-- one turn: the item is stored, the body runs, then k -/
def turnW (g : TDen) (b : SDen) (x : W) (k : SDen) : SDen := fun σ h => match g x σ h with
  | .nx σ1 h1 => match b σ1 h1 with
    | .nx σ2 h2 => k σ2 h2
    | .ct σ2 h2 => k σ2 h2
    | .bk σ2 h2 => .nx σ2 h2
    | r => r
  | _ => .bad
def forS (sr : Src) (g : TDen) (b : SDen) : Nat → Nat → SDen
  | 0, i, σ, h => match sr h with
    | some xs => if xs.length ≤ i then .nx σ h else .bad
    | none => .bad
  | f + 1, i, σ, h => match sr h with
    | some xs => match xs[i]? with
      | some x => turnW g b x (forS sr g b f (i + 1)) σ h
      | none => .nx σ h
    | none => .bad
def dFor (d : IDen) (g : TDen) (b : SDen) : SDen := fun σ h => (d σ h).toS σ fun sr h1 => match sr h1 with
  | some xs => forS sr g b xs.length 0 σ h1
  | none => .bad
/-- an iterator that yields what stands at sr -/
structure ItS (K : PySem.W.Frag) (T : Tb) (J : It) (ω : Wo) (sr : Src) : Prop where
  go : ∀ ω' H h xs i x, ω.Le0 ω' → HRel K T ω' H h → sr h = some xs → xs[i]? = some x → J.go i H ∧ ∀ v H', J.yld i H v H' → ∃ ω2, ω'.Le ω2 ∧ HRel K T ω2 H' h ∧ Rep K T ω2 x v
  stop : ∀ ω' H h xs i, ω.Le0 ω' → HRel K T ω' H h → sr h = some xs → xs.length ≤ i → J.stop i H
def tI (K : PySem.W.Frag) (T : Tb) (Wx : WX) (d : IDen) : TI := fun s H Q => ∃ ω σ h, ERel K T ω σ s ∧ HRel K T ω H h ∧ match d σ h with
  | .ok sr h' => ∀ J H' ω', ω.Le ω' → HRel K T ω' H' h' → ItS K T J ω' sr → Q J H'
  | .ex c fs h' => XP K T Wx ω s c fs h'
  | .bad => False

section
variable {K : PySem.W.Frag} {T : Tb} {Wx : WX} {ω ω' : Wo} {H H' : Hp} {h h' : AH} {s : L2.St} {D : Ends}
theorem pi_to {X : Cx} {tg e : Expr} {t t' : TI} (hh : PI X tg e t) (m : ∀ s H Q, t' s H Q → t s H Q) : PI X tg e t' := ⟨fun pins s σ H Q I q => hh.run pins s σ H Q I (m σ H Q q)⟩
theorem turn_ok {g : TDen} {b : SDen} {x : W} {k : SDen} {v : V} {N : L2.St → Hp → Prop} {σ : Ev} (e : ERel K T ω σ s) (r : HRel K T ω H h) (rx : Rep K T ω x v) (p : SP' K T Wx D ω (turnW g b x k σ h))
    (hk : ∀ s' H' ω' σ' h', ω.Le ω' → ERel K T ω' σ' s' → HRel K T ω' H' h' → SP' K T Wx D ω' (k σ' h') → N s' H') : tG K T Wx g v s H fun s2 H2 => tS K T Wx b { D with nx := N, ct := N, bk := D.nx } s2 H2 := by
  refine ⟨ω, σ, h, x, e, r, rx, ?_⟩
  unfold turnW at p
  cases q : g x σ h with
  | nx σ1 h1 =>
    rw [q] at p
    simp only [] at p
    intro s1 H1 ω1 l1 r1 e1
    refine ⟨ω1, σ1, h1, e1, r1, ?_⟩
    cases q1 : b σ1 h1 with
    | nx σ2 h2 => rw [q1] at p; exact fun s2 H2 ω2 l2 r2 e2 => hk s2 H2 ω2 σ2 h2 (l1.trans l2) e2 r2 (SP'.mono (l1.trans l2) p)
    | ct σ2 h2 => rw [q1] at p; exact fun s2 H2 ω2 l2 r2 e2 => hk s2 H2 ω2 σ2 h2 (l1.trans l2) e2 r2 (SP'.mono (l1.trans l2) p)
    | bk σ2 h2 => rw [q1] at p; exact fun s2 H2 ω2 l2 r2 e2 => p s2 H2 ω2 (l1.trans l2) r2 e2
    | rt x2 h2 => rw [q1] at p; exact fun v2 H2 ω2 l2 r2 e2 => p v2 H2 ω2 (l1.trans l2) r2 e2
    | ex c fs σ2 h2 => rw [q1] at p; exact fun s2 ω2 l2 => p s2 ω2 (l1.trans l2)
    | bad => rw [q1] at p; exact p
  | rt x h1 => rw [q] at p; exact p.elim
  | bk σ1 h1 => rw [q] at p; exact p.elim
  | ct σ1 h1 => rw [q] at p; exact p.elim
  | ex c fs σ1 h1 => rw [q] at p; exact p.elim
  | bad => rw [q] at p; exact p.elim
theorem tS_for {d : IDen} {g : TDen} {b : SDen} (q : tS K T Wx (dFor d g b) D s H) : tFor (tI K T Wx d) (tG K T Wx g) (tS K T Wx b) D s H := by
  obtain ⟨ω, σ, h, e, r, p⟩ := q
  refine ⟨ω, σ, h, e, r, ?_⟩
  unfold dFor at p
  cases q : d σ h with
  | bad => rw [q] at p; exact p
  | ex c fs h1 => rw [q] at p; exact toS_ex e p
  | ok sr h1 =>
    rw [q] at p
    simp only [R.toS] at p
    intro J H1 ω1 l r1 it
    cases q1 : sr h1 with
    | none => rw [q1] at p; exact p.elim
    | some xs =>
      rw [q1] at p
      refine ⟨fun i m s2 H2 => ∃ ω2 σ2 h2, ω1.Le ω2 ∧ ERel K T ω2 σ2 s2 ∧ HRel K T ω2 H2 h2 ∧ SP' K T Wx D ω2 (forS sr g b m i σ2 h2), ⟨xs.length, ω1, σ, h1, Wo.Le.refl _, e.mono l, r1, SP'.mono l p⟩, ?_⟩
      rintro i m s2 H2 ⟨ω2, σ2, h2, l2, e2, r2, p2⟩
      cases m with
      | zero =>
        unfold forS at p2
        split at p2
        · rename_i ys hy
          split at p2
          · rename_i hl
            exact .inl ⟨it.stop ω2 H2 h2 ys i l2.to0 r2 hy hl, S_nx e2 r2 p2⟩
          · exact p2.elim
        · exact p2.elim
      | succ m =>
        unfold forS at p2
        split at p2
        · rename_i ys hy
          split at p2
          · rename_i x hx
            obtain ⟨k1, k2⟩ := it.go ω2 H2 h2 ys i x l2.to0 r2 hy hx
            refine .inr ⟨k1, fun s3 H3 => ∃ ω3 σ3 h3, ω1.Le ω3 ∧ ERel K T ω3 σ3 s3 ∧ HRel K T ω3 H3 h3 ∧ SP' K T Wx D ω3 (forS sr g b m (i + 1) σ3 h3), fun s3 H3 w => ⟨m, Nat.lt_succ_self _, w⟩, fun v H3 y => ?_⟩
            obtain ⟨ω3, l3, r3, rx⟩ := k2 v H3 y
            exact turn_ok (e2.mono l3) r3 rx (SP'.mono l3 p2) fun s4 H4 ω4 σ4 h4 l4 e4 r4 p4 => ⟨ω4, σ4, h4, l2.trans (l3.trans l4), e4, r4, p4⟩
          · rename_i hx
            exact .inl ⟨it.stop ω2 H2 h2 ys i l2.to0 r2 hy (List.getElem?_eq_none_iff.mp hx), S_nx e2 r2 p2⟩
        · exact p2.elim

/-! ### what is walked -/
/-- a list or a tuple -/
def srcOf : W → Option Src
  | .lst xs => some fun _ => some xs
  | .tup xs => some fun _ => some xs
  | .loc n => some fun h => match h[n]? with
    | some (.lst xs) => some xs
    | _ => none
  | _ => none
/-- a walk's start needs the list there -/
def R.src (o : Option Src) (h : AH) : R Src := match o with
  | some sr => match sr h with
    | some _ => .ok sr h
    | none => .bad
  | none => .bad
def dSq (d : Den) : IDen := fun σ h => (d σ h).andThen fun x h1 => .src (srcOf x) h1
def iLT (K : PySem.W.Frag) (tl : TE) : TI := fun σ H R => tl σ H fun x H1 => ∃ a, x = .ref a ∧ (((∃ xs, SqL K H1 a xs) ∧ R (Itl K a) H1) ∨ ((∃ xs, SqT K H1 a xs) ∧ R (Itt K a) H1))
theorem pi_lt {X : Cx} {tg l : Expr} {tl : TE} (hl : PE X l tl) : PI X tg l (iLT X.K tl) := by
  refine ⟨fun pins s σ H R I h => ?_⟩
  refine thn (hl.run pins s σ H _ I h) fun v s1 ⟨x, H1, I1, r1, q1⟩ => ?_
  obtain ⟨a, e, q1⟩ := q1
  subst e
  cases r1
  rcases q1 with ⟨⟨xs, hq⟩, q⟩ | ⟨⟨xs, hq⟩, q⟩
  · obtain ⟨its, rv, p, hz⟩ := I1.list hq
    refine wpAny_pyIter_list p.isList ?_
    refine ⟨s1.heap.objs.size, [s1.heap.objs.size], _, _, H1, rfl, I1.kept (t' := s1.toks) fun b o e => Heap.get?_push_of_some _ e, turn_list a _, ⟨_, Heap.get?_push_size _ rfl, rfl, rfl⟩, fun b hb => ?_, q⟩
    have e : b = s1.heap.objs.size := by simpa using hb
    subst e
    exact I1.fpOk (Nat.le_refl _) (I1.hok.fresh (Nat.le_refl _))
  · obtain ⟨its, rv, p, hz⟩ := I1.tuple hq
    refine wpAny_pyIter_tuple (show s1.heap.IsTuple a its.toArray from p) ?_
    refine ⟨s1.heap.objs.size, [s1.heap.objs.size], _, _, H1, rfl, I1.kept (t' := s1.toks) fun b o e => Heap.get?_push_of_some _ e, turn_tuple a _, ⟨_, Heap.get?_push_size _ rfl, rfl, rfl⟩, fun b hb => ?_, q⟩
    have e : b = s1.heap.objs.size := by simpa using hb
    subst e
    exact I1.fpOk (Nat.le_refl _) (I1.hok.fresh (Nat.le_refl _))
theorem its_l {sr : Src} {a : Addr} (hs : ∀ ω' H h xs, ω.Le0 ω' → HRel K T ω' H h → sr h = some xs → ∃ vs, SqL K H a vs ∧ RepL K T ω' xs vs) : ItS K T (Itl K a) ω sr where
  go := fun ω' H h xs i x l r e hx => by
    obtain ⟨vs, q, rv⟩ := hs ω' H h xs l r e
    obtain ⟨v, hv, rx⟩ := rv.get hx
    refine ⟨⟨vs, v, q, hv⟩, fun w H' y => ?_⟩
    obtain ⟨rfl, y⟩ := y
    have := y vs q
    rw [hv] at this; cases this
    exact ⟨ω', Wo.Le.refl _, r, rx⟩
  stop := fun ω' H h xs i l r e hl => by
    obtain ⟨vs, q, rv⟩ := hs ω' H h xs l r e
    exact ⟨vs, q, by rw [rv.length]; exact hl⟩
theorem its_t {sr : Src} {a : Addr} (hs : ∀ ω' H h xs, ω.Le0 ω' → HRel K T ω' H h → sr h = some xs → ∃ vs, SqT K H a vs ∧ RepL K T ω' xs vs) : ItS K T (Itt K a) ω sr where
  go := fun ω' H h xs i x l r e hx => by
    obtain ⟨vs, q, rv⟩ := hs ω' H h xs l r e
    obtain ⟨v, hv, rx⟩ := rv.get hx
    refine ⟨⟨vs, v, q, hv⟩, fun w H' y => ?_⟩
    obtain ⟨rfl, y⟩ := y
    have := y vs q
    rw [hv] at this; cases this
    exact ⟨ω', Wo.Le.refl _, r, rx⟩
  stop := fun ω' H h xs i l r e hl => by
    obtain ⟨vs, q, rv⟩ := hs ω' H h xs l r e
    exact ⟨vs, q, by rw [rv.length]; exact hl⟩
theorem src_at (r : HRel K T ω H h) {x : W} {u : V} {sr : Src} {xs : List W} (rx : Rep K T ω x u) (e : srcOf x = some sr) (e2 : sr h = some xs) : ∃ a, u = .ref a ∧ (((∃ vs, SqL K H a vs) ∧ ItS K T (Itl K a) ω sr) ∨ ((∃ vs, SqT K H a vs) ∧ ItS K T (Itt K a) ω sr)) := by
  cases x with
  | lst ys =>
    obtain rfl := Option.some.inj e
    obtain ⟨a, vs, rfl, rd, hz, rv⟩ := rx
    refine ⟨a, rfl, .inl ⟨⟨vs, ex_l r.fr rd⟩, its_l fun ω' H' h' zs l r' e' => ?_⟩⟩
    obtain rfl := Option.some.inj e'
    exact ⟨vs, ex_l r'.fr (ex_l l.2 rd), rv.mono0 l⟩
  | tup ys =>
    obtain rfl := Option.some.inj e
    obtain ⟨a, vs, rfl, rd, hz, rv⟩ := rx
    refine ⟨a, rfl, .inr ⟨⟨vs, ex_t r.fr rd⟩, its_t fun ω' H' h' zs l r' e' => ?_⟩⟩
    obtain rfl := Option.some.inj e'
    exact ⟨vs, ex_t r'.fr (ex_t l.2 rd), rv.mono0 l⟩
  | loc n =>
    obtain rfl := Option.some.inj e
    obtain ⟨a, rfl, hn⟩ := rx
    have at_ : ∀ ω' H h xs, ω.Le0 ω' → HRel K T ω' H h → (match h[n]? with
      | some (.lst xs) => some xs
      | _ => none) = some xs → ∃ vs, SqL K H a vs ∧ RepL K T ω' xs vs := fun ω' H' h' zs l r' e' => by
      split at e'
      · rename_i ys hy
        obtain rfl := Option.some.inj e'
        obtain ⟨vs, ev, hz, rv⟩ := r'.at_ n _ a hy (l.1 n a hn)
        exact ⟨vs, sq_of ev, rv⟩
      · cases e'
    obtain ⟨vs, q, _⟩ := at_ ω H h xs (Wo.Le0.refl _) r e2
    exact ⟨a, rfl, .inl ⟨⟨vs, q⟩, its_l at_⟩⟩
  | non => cases e
  | bl b => cases e
  | int i => cases e
  | str z => cases e
  | fn k => cases e
/-- from an expression's end to a walk's start -/
theorem tI_of {d : Den} {k : W → AH → R Src} {Q : It → Hp → Prop} {Qv : VK} {σ : Ev} (e : ERel K T ω σ s) (r : HRel K T ω H h)
    (hk : ∀ x h1 v H1 ω1, ω.Le ω1 → HRel K T ω1 H1 h1 → Rep K T ω1 x v → (∀ sr h2, k x h1 = .ok sr h2 → (∀ J H' ω', ω.Le ω' → HRel K T ω' H' h2 → ItS K T J ω' sr → Q J H') → Qv v H1) ∧ (∀ c fs h2, k x h1 ≠ .ex c fs h2))
    (p : match (d σ h).andThen k with
      | .ok sr h' => ∀ J H' ω', ω.Le ω' → HRel K T ω' H' h' → ItS K T J ω' sr → Q J H'
      | .ex c fs h' => XP K T Wx ω s c fs h'
      | .bad => False) : tE K T Wx d s H Qv := by
  refine ⟨ω, σ, h, e, r, ?_⟩
  cases q : d σ h with
  | bad => rw [q] at p; exact p
  | ex c fs h1 => rw [q] at p; exact p
  | ok x h1 =>
    rw [q] at p
    simp only [R.andThen] at p
    intro v H1 ω1 l r1 rx
    obtain ⟨k1, k2⟩ := hk x h1 v H1 ω1 l r1 rx
    cases qk : k x h1 with
    | ok sr h2 => rw [qk] at p; exact k1 sr h2 qk p
    | ex c fs h2 => exact (k2 c fs h2 qk).elim
    | bad => rw [qk] at p; exact p.elim
theorem tI_seq {d : Den} {Q : It → Hp → Prop} (q : tI K T Wx (dSq d) s H Q) : iLT K (tE K T Wx d) s H Q := by
  obtain ⟨ω, σ, h, e, r, p⟩ := q
  refine tI_of e r (fun x h1 v H1 ω1 l r1 rx => ⟨fun sr h2 ek p => ?_, fun c fs h2 ek => ?_⟩) p
  · unfold R.src at ek
    split at ek
    · rename_i sr' hs
      split at ek
      · rename_i xs hx
        cases ek
        obtain ⟨a, rfl, q⟩ := src_at r1 rx hs hx
        refine ⟨a, rfl, ?_⟩
        rcases q with ⟨k1, k2⟩ | ⟨k1, k2⟩
        · exact .inl ⟨k1, p _ H1 ω1 l r1 k2⟩
        · exact .inr ⟨k1, p _ H1 ω1 l r1 k2⟩
      · cases ek
    · cases ek
  · unfold R.src at ek
    split at ek
    · split at ek <;> cases ek
    · cases ek
/-- a range: the items are numbers -/
def rngW (lo : Int) : Nat → List W
  | 0 => []
  | n + 1 => .int lo :: rngW (lo + 1) n
theorem rngW_len (lo : Int) (n : Nat) : (rngW lo n).length = n := by
  induction n generalizing lo with
  | zero => rfl
  | succ n ih => unfold rngW; rw [List.length_cons, ih]
theorem rngW_at {lo : Int} {n i : Nat} {x : W} (e : (rngW lo n)[i]? = some x) : i < n ∧ x = .int (lo + i) := by
  induction n generalizing lo i with
  | zero => cases e
  | succ n ih =>
    unfold rngW at e
    cases i with
    | zero => simp at e; subst e; exact ⟨Nat.succ_pos _, by simp⟩
    | succ i =>
      obtain ⟨k1, k2⟩ := ih (by simpa using e)
      refine ⟨Nat.succ_lt_succ k1, ?_⟩
      rw [k2]; congr 1; omega
theorem its_r {lo : Int} {n : Nat} : ItS K T (Itr lo n) ω (fun _ => some (rngW lo n)) where
  go := fun ω' H h xs i x l r e hx => by
    obtain rfl := Option.some.inj e
    obtain ⟨k1, rfl⟩ := rngW_at hx
    refine ⟨k1, fun w H' y => ?_⟩
    obtain ⟨rfl, rfl⟩ := y
    exact ⟨ω', Wo.Le.refl _, r, rfl⟩
  stop := fun ω' H h xs i l r e hl => by
    obtain rfl := Option.some.inj e
    rw [rngW_len] at hl; exact hl
/-- two bounds; with one the lower is nought -/
def smI (i : Int) : Bool := decide (-(2 ^ 62) ≤ i ∧ i < 2 ^ 62)
def rngS : List W → AH → R Src
  | [.int j], h => if smI j = true then .ok (fun _ => some (rngW 0 j.toNat)) h else .bad
  | [.int i, .int j], h => if smI i = true ∧ smI j = true then .ok (fun _ => some (rngW i (j - i).toNat)) h else .bad
  | _, _ => .bad
def dRng (a : Ev → AH → R (List W)) : IDen := fun σ h => (a σ h).andThen rngS
theorem tI_rng1 {a : Ev → AH → R (List W)} {Q : It → Hp → Prop} (ha : ∀ σ h xs h1, a σ h = .ok xs h1 → xs.length = 1) (q : tI K T Wx (dRng a) s H Q) : iRng1 (tA K T Wx a) s H Q := by
  obtain ⟨ω, σ, h, e, r, p⟩ := q
  refine ⟨ω, σ, h, e, r, ?_⟩
  unfold dRng at p
  cases q : a σ h with
  | bad => rw [q] at p; exact p
  | ex c fs h1 => rw [q] at p; exact p
  | ok xs h1 =>
    rw [q] at p
    simp only [R.andThen] at p
    intro vs H1 ω1 l r1 rx
    have hl := ha _ _ _ _ q
    match xs, hl with
    | [x], _ =>
      cases x with
      | int j =>
        simp only [rngS] at p
        split at p
        · rename_i hs
          split at hs
          · rename_i hj
            cases hs
            obtain ⟨u, rfl, ru⟩ := RepL.one_of rx
            obtain rfl : u = _ := ru
            have hj' : -(2 ^ 62) ≤ j ∧ j < 2 ^ 62 := of_decide_eq_true hj
            exact ⟨j, rfl, hj'.1, hj'.2, p _ H1 ω1 l r1 its_r⟩
          · cases hs
        · rename_i hs
          split at hs <;> cases hs
        · exact p.elim
      | _ => exact p.elim
theorem tI_rng2 {a : Ev → AH → R (List W)} {Q : It → Hp → Prop} (ha : ∀ σ h xs h1, a σ h = .ok xs h1 → xs.length = 2) (q : tI K T Wx (dRng a) s H Q) : iRng2 (tA K T Wx a) s H Q := by
  obtain ⟨ω, σ, h, e, r, p⟩ := q
  refine ⟨ω, σ, h, e, r, ?_⟩
  unfold dRng at p
  cases q : a σ h with
  | bad => rw [q] at p; exact p
  | ex c fs h1 => rw [q] at p; exact p
  | ok xs h1 =>
    rw [q] at p
    simp only [R.andThen] at p
    intro vs H1 ω1 l r1 rx
    obtain ⟨x, y, rfl⟩ := len2 (ha _ _ _ _ q)
    cases x with
    | int i =>
      cases y with
      | int j =>
        simp only [rngS] at p
        split at p
        · rename_i hs
          split at hs
          · rename_i hj
            cases hs
            obtain ⟨u, v, rfl, ru, rv⟩ := RepL.two_of rx
            obtain rfl : u = _ := ru
            obtain rfl : v = _ := rv
            have hi' : -(2 ^ 62) ≤ i ∧ i < 2 ^ 62 := of_decide_eq_true hj.1
            have hj' : -(2 ^ 62) ≤ j ∧ j < 2 ^ 62 := of_decide_eq_true hj.2
            exact ⟨i, j, rfl, ⟨hi'.1, hi'.2, hj'.1, hj'.2⟩, p _ H1 ω1 l r1 its_r⟩
          · cases hs
        · rename_i hs
          split at hs <;> cases hs
        · exact p.elim
      | _ => exact p.elim
    | _ => exact p.elim
theorem dCons1_len {a : Den} {σ : Ev} {h : AH} {xs : List W} {h1 : AH} (e : dCons a dNil σ h = .ok xs h1) : xs.length = 1 := by
  unfold dCons at e
  cases q : a σ h with
  | ok x h2 => rw [q] at e; simp only [R.andThen, dNil] at e; cases e; rfl
  | ex c fs h2 => rw [q] at e; cases e
  | bad => rw [q] at e; cases e
theorem dCons2_len {a b : Den} {σ : Ev} {h : AH} {xs : List W} {h1 : AH} (e : dCons a (dCons b dNil) σ h = .ok xs h1) : xs.length = 2 := by
  unfold dCons at e
  cases q : a σ h with
  | ok x h2 =>
    rw [q] at e
    simp only [R.andThen] at e
    cases q2 : b σ h2 with
    | ok y h3 => rw [q2] at e; simp only [dNil] at e; cases e; rfl
    | ex c fs h3 => rw [q2] at e; cases e
    | bad => rw [q2] at e; cases e
  | ex c fs h2 => rw [q] at e; cases e
  | bad => rw [q] at e; cases e

/-! ### while -/
def whW (c : Den) (b : SDen) : Nat → SDen
  | 0 => fun _ _ => .bad
  | f + 1 => fun σ h => (dT c σ h).toS σ fun k h1 => if k = true then (match b σ h1 with
      | .nx σ2 h2 => whW c b f σ2 h2
      | .ct σ2 h2 => whW c b f σ2 h2
      | .bk σ2 h2 => .nx σ2 h2
      | r => r) else .nx σ h1
/-- turns enough -/
@[irreducible] def FUEL : Nat := 1000000000000
theorem fuel_ge {n : Nat} (h : n ≤ 1000000000000) : n ≤ FUEL := by
  unfold FUEL
  exact h
def dWhile (c : Den) (b : SDen) : SDen := fun σ h => whW c b FUEL σ h
theorem whW_more {c : Den} {b : SDen} : ∀ {n m : Nat} {σ : Ev} {h : AH} {r : S}, n ≤ m → whW c b n σ h = r → r ≠ .bad → whW c b m σ h = r
  | 0, m, σ, h, r, _, e, hr => (hr e.symm).elim
  | n + 1, 0, _, _, _, l, _, _ => absurd l (by omega)
  | n + 1, m + 1, σ, h, r, l, e, hr => by
    unfold whW at e ⊢
    cases q : dT c σ h with
    | bad => rw [q] at e; exact e
    | ex cc fs h1 => rw [q] at e; exact e
    | ok k h1 =>
      rw [q] at e
      simp only [R.toS] at e ⊢
      cases k with
      | false => exact e
      | true =>
        simp only [if_pos] at e ⊢
        cases q1 : b σ h1 with
        | nx σ2 h2 => rw [q1] at e; exact whW_more (Nat.le_of_succ_le_succ l) e hr
        | ct σ2 h2 => rw [q1] at e; exact whW_more (Nat.le_of_succ_le_succ l) e hr
        | bk σ2 h2 => rw [q1] at e; exact e
        | rt x2 h2 => rw [q1] at e; exact e
        | ex cc fs σ2 h2 => rw [q1] at e; exact e
        | bad => rw [q1] at e; exact e
theorem dWhile_of {c : Den} {b : SDen} {n : Nat} {σ : Ev} {h : AH} {r : S} (l : n ≤ 1000000000000) (e : whW c b n σ h = r) (hr : r ≠ .bad) : dWhile c b σ h = r := whW_more (fuel_ge l) e hr
theorem tS_while {c : Den} {b : SDen} (q : tS K T Wx (dWhile c b) D s H) : tWhile (tT K T Wx (dT c)) (tS K T Wx b) D s H := by
  obtain ⟨ω, σ, h, e, r, p⟩ := q
  refine ⟨fun m s2 H2 => ∃ ω2 σ2 h2, ERel K T ω2 σ2 s2 ∧ HRel K T ω2 H2 h2 ∧ SP' K T Wx D ω2 (whW c b m σ2 h2), ⟨FUEL, ω, σ, h, e, r, p⟩, ?_⟩
  rintro m s2 H2 ⟨ω2, σ2, h2, e2, r2, p2⟩
  cases m with
  | zero => exact p2.elim
  | succ m =>
    unfold whW at p2
    refine tT_toS e2 r2 ?_ p2
    intro k h3 H3 ω3 l3 r3 p3
    cases k with
    | false => exact S_nx (e2.mono l3) r3 p3
    | true =>
      simp only [if_pos] at p3 ⊢
      refine ⟨fun s4 H4 => ∃ ω4 σ4 h4, ERel K T ω4 σ4 s4 ∧ HRel K T ω4 H4 h4 ∧ SP' K T Wx D ω4 (whW c b m σ4 h4), fun s4 H4 w => ⟨m, Nat.lt_succ_self _, w⟩, ω3, σ2, h3, e2.mono l3, r3, ?_⟩
      cases q1 : b σ2 h3 with
      | nx σ4 h4 => rw [q1] at p3; exact fun s4 H4 ω4 l4 r4 e4 => ⟨ω4, σ4, h4, e4, r4, SP'.mono l4 p3⟩
      | ct σ4 h4 => rw [q1] at p3; exact fun s4 H4 ω4 l4 r4 e4 => ⟨ω4, σ4, h4, e4, r4, SP'.mono l4 p3⟩
      | bk σ4 h4 => rw [q1] at p3; exact p3
      | rt x2 h4 => rw [q1] at p3; exact p3
      | ex cc fs σ4 h4 => rw [q1] at p3; exact p3
      | bad => rw [q1] at p3; exact p3
end
end Dn
set_option Elab.async false
set_option linter.all false
set_option maxRecDepth 100000
set_option maxHeartbeats 800000
/-! An own exception class under ValueError whose __init__ is: super().__init__(a text); self.f = its argument. -/
namespace Dn
open PySem L2 Evl PySem.Calls PyProof.Rows

/-- the def and what stands about it in the written part -/
structure SupF (P : Program) (K : PySem.W.Frag) (mg : Str → Option Value) (D fI : Addr) (fd : FuncData) (qual n0 n1 f : Str) (c : Str) : Prop where
  ox : OexC K D
  iC : PySem.W.findIn K (.ref D) "__init__" = some (some (.ref fI))
  tI : PySem.W.typeIn K (.ref fI) = some (.type "function")
  no : PySem.W.findIn K (.ref D) f = some none
  fx : ∃ (oc : Value) (od an : Option Addr) (params : Arguments) (scope : Scope) (dV kV doc pm ct : Value) (osl : Array (Option Value)) (cc cda : Addr) (p0 p1 ap cp cpos epos q0 q1 q2 apos : Pos) (jd : Nat) (ar : Arg) (ccl : Value) (cdd : Option Addr) (vs : Array Value) (ccs : Array (Option Value)) (file : Str) (tf : Tok) (cl : Value) (cld : Option Addr) (csl : Array (Option Value)),
    fd = PySem.W.fnX "__init__" qual params [.Expr (.Call (.Attribute (.Call (.Name "super" p0) [] [] p1) "__init__" ap) [.Constant (.str c) jd cp] [] cpos) epos, .Assign [.Attribute (.Name n0 q0) f q1] (.Name n1 q2) apos] scope [("__class__", cc)] dV kV doc pm an (.ref cda) ct ∧
      K.lookup fI = some ⟨oc, od, .func fd, osl⟩ ∧ PySem.W.codeIn K (.ref cda) qual = true ∧ (params.posonlyargs ++ params.args).head? = some ar ∧ ar.arg = n0 ∧
      K.lookup cda = some ⟨ccl, cdd, .fields vs, ccs⟩ ∧ vs[2]? = some (.str file tf) ∧ ((P.main.file : Str) == file) = true ∧ K.lookup cc = some ⟨cl, cld, .cell (some (.ref D)), csl⟩ ∧
      scope.kind = .function ∧ scope.isCoroutine = false ∧ scope.isGenerator = false ∧ scope.names.lookup ("super" : Str) = some .globalImplicit ∧ scope.names.lookup ("__class__" : Str) = some .free ∧ scope.names.lookup n0 = some .local ∧ scope.names.lookup n1 = some .local ∧
      (∀ y ∈ scope.names, y.2 ≠ .cell ∧ (y.2 = .free → y.1 = "__class__")) ∧
      (∀ env : Env, eval (.Call (.Attribute (.Call (.Name "super" p0) [] [] p1) "__init__" ap) [.Constant (.str c) jd cp] [] cpos) env = (do
        let ov ← attributeBase (.Call (.Name "super" p0) [] [] p1) "__init__" env (eval (.Call (.Name "super" p0) [] [] p1) env)
        standAt ap.atName
        let (f, first) ← holding [ov] (getMethod ov "__init__" (do return (← importBound (.Call (.Name "super" p0) [] [] p1) env).getD true))
        callWith cpos f first (backTo cpos (starEach [.Constant (.str c) jd cp] env)) []))
  top : (P.main.scope.names.lookup ("super" : Str)).isSome = false
  sup : mg "super" = none
  cd : ∃ cd, PySem.W.clsIn K D = some cd
  si : PySem.W.ks_superIn K D D "__init__" = some (some (.builtin "ValueError.__init__"))
  own : PySem.W.mroIn K D (.ref D) = some true
  vB : PySem.W.subIn K (.ref D) (.type "ValueError") = some true
  tp : PySem.W.nsIn K cStatics "thirdparty.any" = some none
  ne : n0 ≠ n1
  db : (n0 == ("__debug__" : Str)) = false ∧ (n1 == ("__debug__" : Str)) = false ∧ (n0 == ("__classdict__" : Str)) = false ∧ (n1 == ("__classdict__" : Str)) = false
/-- its promise: self gets its dict -/
def spSup (D : Addr) (f : Str) : Sp := fun vs H Q _ => ∃ a v, vs = [.ref a, v] ∧ H a = some (exo a D none) ∧ ∀ dx, H dx = none → dx ≠ a → Q .non (upd (upd H dx (exd dx [(f, v)])) a (exo a D (some dx)))

/-- the context of its body -/
def supCx (CX : CXT) (P : Program) (w : World) (K : PySem.W.Frag) (mg : Str → Option Value) (base : Heap) (N : List Str) (qual : Str) (scope : Scope) (f : Addr) (cd : Value) (cc : Addr) (A : Around) (outer : List Env) (s : Shared) (H : Hp) (E : XK) : Cx where
  prog := P
  w := w
  K := K
  mg := mg
  base := base
  A := A.deeper (PySem.W.envX qual scope s.heap.objs.size f cd [("__class__", cc)])
  N := N
  s_0 := s
  H_0 := H
  env := PySem.W.envX qual scope s.heap.objs.size f cd [("__class__", cc)]
  outer := outer
  stack := PySem.W.envX qual scope s.heap.objs.size f cd [("__class__", cc)] :: outer
  ex := []
  calm := true
  fn := fun _ => false
  pn := []
  xe := fun e s' => wpAny (model P w) (A.deeper (PySem.W.envX qual scope s.heap.objs.size f cd [("__class__", cc)])) (leaving (PySem.W.envX qual scope s.heap.objs.size f cd [("__class__", cc)]) e) (fun _ s'' => CX outer H s E e s'') (fun e' s'' => CX outer H s E e' s'') s'

section
variable {prog : Program} {w : World} {A : Around} {E : Value → Shared → Prop} {h : Heap} {g : Array GenState} {d : Drawn} {t : Nat} {os : OsState}
variable {nm q : Str} {C N : Addr} {bs bm : List Value} {hdct : Bool} {sn : List Str} {sub : List Value} {ab : Bool} {col : Option Bool} {dd : Option Addr} {k0 k1 k2 k3 k5 : Option Value}
theorem call_mw {u e t0 : Addr} {rest : List Value} {Q : Value → Shared → Prop}
    (hC : h.get? C = some (excClassObj nm q C N bs bm hdct sn sub ab col dd k0 k1 k2 k3 k5 "ValueError.__new__")) (he : h.get? e = some (HandSPX.excO C t0)) (hu : h.get? u = some (PySem.W.kxs_mw "ValueError.__init__" e)) (hrest : rest.length ≤ sizeLine)
    (hq : ∀ h' t1, (∀ b o, b ≠ e → h.get? b = some o → h'.get? b = some o) → h'.get? e = some (HandSPX.excO C t1) → Q .none ⟨h', g, d, t, os⟩) :
    wpAny (model prog w) A (call (.ref u) rest) Q E ⟨h, g, d, t, os⟩ := by
  refine wpAny_call (codeAny_of_tree ?_)
  show wpAny _ A.in1 (callAny (.ref u) ⟨rest, []⟩) _ _ _
  simp only [callAny]
  refine wpAny_bind (wpAny_load hu ?_)
  simp only [PySem.W.kxs_mw, show (Value.type "method-wrapper" == Value.type "method" || Value.type "method-wrapper" == Value.type "builtin_function_or_method" || Value.type "method-wrapper" == Value.type "method-wrapper") = true by decide, if_true]
  refine W.KFB.if_so (by decide) ?_
  refine wpAny_bind (ESX.check_bound F.excBase_ValueError hC he rfl ?_)
  refine wpAny_bind (wpAny_pure (wpAny_pure ?_))
  refine ⟨Code.quiet_builtin _ (by decide +kernel), codeAny_builtin F.excBase_ValueError.initEntry ?_⟩
  rw [Around.under_plainId F.excBase_ValueError.init.plain _]
  wp_walk
  refine hq _ h.objs.size (fun b o hb ho => ?_) ?_
  · rw [Heap.get?_update_other _ _ (Ne.symm hb)]
    exact Heap.get?_push_of_some _ ho
  · rw [Heap.get?_update_self _ (Heap.get?_push_of_some _ he) rfl]
    rfl
end

section
variable {P : Program} {w : World} {K : PySem.W.Frag} {mg : Str → Option Value} {base : Heap} {D fI : Addr} {fd : FuncData} {qual n0 n1 f : Str} {c : Str} {k : Nat}
theorem sup_start {CX : CXT} {scope : Scope} {cdv : Value} {cc : Addr} {A : Around} {outer : List Env} {s : Shared} {H : Hp} {E : XK} {h₁ : Heap} {tk : Nat} {u0 u1 : Value} {v0 v1 : V} (hd : A.handled = none) (e0 : Env0 P w K mg base A outer s H)
    (hk : scope.kind = .function) (hfr : ∀ y ∈ scope.names, y.2 ≠ .cell ∧ (y.2 = .free → y.1 = "__class__")) (ne : n0 ≠ n1) (l0 : scope.names.lookup n0 = some .local) (l1 : scope.names.lookup n1 = some .local)
    {cl : Value} {cld : Option Addr} {csl : Array (Option Value)} (hcell : K.lookup cc = some ⟨cl, cld, .cell (some (.ref D)), csl⟩)
    (hns : h₁.Ns s.heap.objs.size fun x => ([(n0, u0), (n1, u1)] : List (Str × Value)).reverse.lookup x) (kp : ∀ b o, s.heap.get? b = some o → h₁.get? b = some o) (r0 : RelV v0 u0) (r1 : RelV v1 u1) :
    Inv (supCx CX P w K mg base [n0, n1] qual scope fI cdv cc A outer s H E) [] [some v0, some v1] H { s with heap := h₁, toks := tk } := by
  have noA : ∀ b : Addr, b ∉ (supCx CX P w K mg base [n0, n1] qual scope fI cdv cc A outer s H E).ex := fun b z => absurd (show b ∈ ([] : List Addr) from z) (by simp)
  have hb : base.get? cc = some ⟨cl, cld, .cell (some (.ref D)), csl⟩ := e0.mod.kin _ _ hcell
  have lkc : ∀ {y c}, ([(("__class__" : Str), cc)] : List (Str × Addr)).lookup y = some c → y = "__class__" ∧ c = cc := fun {y c} e => by
    have m := PySem.mem_of_lookup e
    simp at m; exact ⟨m.1, m.2⟩
  refine ⟨⟨e0.mod, hk, rfl, rfl, Nat.le_refl _, fun y z c e1 e2 => ?_, fun y hy => ?_, fun y c z _ => ?_, fun _ => hd, Around.frames_deeper e0.frames, .inr ⟨rfl, rfl⟩, fun b z => absurd z (noA b), e0.bs, e0.bsz, fun b _ _ => noA b, fun b z => absurd z (noA b), e0.funs, e0.frf⟩,
    rfl, e0.bare, Un.kept kp, ⟨_, hns, fun i y v e1 e2 e3 => ?_⟩, fun y c e => ?_, e0.hok.fresh (Nat.le_refl _), fun y c e => ?_, fun p hp => absurd (show p ∈ ([] : List (Addr × Obj)) from hp) (by simp), e0.hok.kept kp, rfl⟩
  · exact (lkc e1).1.trans (lkc e2).1.symm
  · have hy : scope.names.lookup y = some .cell ∨ scope.names.lookup y = some .free := hy
    rcases hy with hy | hy
    · exact absurd rfl (hfr _ (PySem.mem_of_lookup hy)).1
    · have := (hfr _ (PySem.mem_of_lookup hy)).2 rfl
      simp only at this
      subst this
      exact ⟨cc, by simp [supCx]⟩
  · exact Bool.noConfusion (show false = true from z)
  · match i with
    | 0 =>
      simp [supCx] at e1 e2
      subst e1; subst e2
      refine ⟨u0, r0, .inl ⟨l0, ?_⟩⟩
      show ([(n1, u1), (n0, u0)] : List (Str × Value)).lookup n0 = some u0
      rw [List.lookup_cons, beq_eq_false_iff_ne.mpr ne]
      simp [List.lookup]
    | 1 =>
      simp [supCx] at e1 e2
      subst e1; subst e2
      refine ⟨u1, r1, .inl ⟨l1, ?_⟩⟩
      show ([(n1, u1), (n0, u0)] : List (Str × Value)).lookup n1 = some u1
      simp [List.lookup]
    | i + 2 => simp [supCx] at e1
  · obtain ⟨rfl, rfl⟩ := lkc e
    exact ⟨_, _, kp _ _ (e0.bs _ _ hb).1, rfl⟩
  · obtain ⟨rfl, rfl⟩ := lkc e
    exact (e0.bs _ _ hb).2
theorem fn_sup {CX : CXT} (F : SupF P K mg D fI fd qual n0 n1 f c) : FnOk P w K mg base CX (k + 1) fI fd [n0, n1] (spSup D f) := by
  refine ⟨fun vs H Q E h => ?_, fun A outer s H args us vs Q E hr e0 hb r hsp => ?_⟩
  · obtain ⟨a, v, rfl, _⟩ := h; rfl
  obtain ⟨oc, od, an, params, scope, dV, kV, doc, pm, ct, osl, cc, cda, p0, p1, ap, cp, cpos, epos, q0, q1, q2, apos, jd, ar, ccl, cdd, vs', ccs, file, tf, cl, cld, csl, rfl, lk, hcd, hp, rfl, hcode, hvs, hfile, hcell, hk, hco, hgen, ls, lc, l0, l1, hfr, hev⟩ := F.fx
  obtain ⟨cdD, hcdD⟩ := F.cd
  obtain ⟨a, v, rfl, ea, q⟩ := hsp
  have KX : K.In s.heap := e0.mod.kin.keeps fun b o e => (e0.bs b o e).1
  have lim : s.heap.NoLimit := e0.mod.nolimit.keeps fun b o e => (e0.bs b o e).1
  cases r with
  | @cons _ u0 _ ur r0 rr =>
  cases rr with
  | @cons _ u1 _ ur2 r1 rr2 =>
  cases rr2
  obtain rfl : u0 = Value.ref a := r0
  have hbz : ∀ x ∈ [ar.arg, n1].zip [Value.ref a, u1], scope.names.lookup x.1 = some .local := fun x hx => by
    simp at hx
    rcases hx with rfl | rfl
    · exact l0
    · exact l1
  refine PySem.ks_codeAny_call_defAt (fd := PySem.W.fnX "__init__" qual params _ scope [("__class__", cc)] dV kV doc pm an (.ref cda) ct) hr.depth (KX _ _ lk) rfl lim (PySem.W.codeRec_of KX hcd) rfl hb (fun x hx => (hfr x hx).1) hbz (fun h₁ hns hkp => ?_) hco hgen hk
  have I : Inv (supCx CX P w K mg base [ar.arg, n1] qual scope fI (.ref cda) cc A outer s H E) [] [some (.ref a), some v] H { s with heap := h₁, toks := s.toks + ([ar.arg, n1].zip [Value.ref a, u1]).length } :=
    sup_start hr.hd e0 hk hfr F.ne l0 l1 hcell hns hkp rfl r1
  have KX1 : K.In h₁ := I.kIn
  refine PySem.ks_wpAt_execs_cons (PySem.ks_wpAt_Expr_any (PySem.ks_wpAt_MethodCall (pl := _) ?h1 (hev _)) ?h3 ?h4)
  case h3 =>
    unfold interactive
    rw [show (callEnv (PySem.W.fnX "__init__" qual params _ scope [("__class__", cc)] dV kV doc pm an (.ref cda) ct) s.heap.objs.size fI).scope.kind = .function from hk]; rfl
  case h4 => rfl
  case h1 =>
    refine PySem.ks_wpAt_super_base (f := fI) (cc := cda) ls lc rfl rfl (KX1 _ _ lk) rfl hp rfl (KX1 _ _ hcode) rfl hvs hfile F.top ?_
    obtain ⟨mb, b1, b2⟩ := e0.mod.blt
    refine PySem.W.ks_loadName_global hk ls (Calls.loadGlobal_builtin (e0.mod.glob.keeps I.bk) F.sup (b1.keeps I.bk) ((b2 _ (by decide)).trans PyProof.Rows.Boot.«super») ⟨rfl, ?_⟩)
    refine wpAny_loadName_free hk lc (c := cc) (by show ([(("__class__" : Str), cc)] : List (Str × Addr)).lookup ("__class__" : Str) = some cc; simp [List.lookup]) ⟨_, KX1 _ _ hcell, rfl⟩ ?_
    refine wpAny_loadName_local hk l0 hns (v := .ref a) ?_ ?_
    · show ([(n1, u1), (ar.arg, Value.ref a)] : List (Str × Value)).lookup ar.arg = some (Value.ref a)
      rw [List.lookup_cons, beq_eq_false_iff_ne.mpr F.ne]
      simp [List.lookup]
    obtain ⟨oD, hD1, hD2⟩ : ∃ oD, h₁.get? D = some oD ∧ oD.data = .cls cdD := by
      have hD := hcdD
      unfold PySem.W.clsIn at hD
      split at hD
      · rename_i c d cd' sl ho
        cases hD
        exact ⟨_, KX1 _ _ ho, rfl⟩
      · cases hD
    obtain ⟨t1, hx⟩ := exo_at I.hok ea
    have IA : PySem.W.InstAt h₁ a _ D none := ⟨hx, rfl, rfl, trivial⟩
    obtain ⟨hs0, g, d, t, os⟩ := s
    refine ks_wpAny_isType_cls hD1 hD2 ⟨rfl, ?_⟩
    refine ks_wpAny_call_super hD1 hD2 hx rfl (fun c e => by cases e) (PySem.W.looks_mroIn KX1 F.own) (fun h2 e2 k2 => ?_)
    have J1 := I.kept (t' := t + ([ar.arg, n1].zip [Value.ref a, u1]).length) k2
    have KX2 : K.In h2 := J1.kIn
    have hx2 := k2 _ _ hx
    have IA2 : PySem.W.InstAt h2 a _ D none := ⟨hx2, rfl, rfl, trivial⟩
    refine PySem.W.kxs_getMethod PySem.W.kxs_ValueError e2 (PySem.W.looks_opaque KX2 F.tp) (l₀ := cdD.mro) ?_ rfl KX2 ?_ (IA2.type.andThen (PySem.W.looks_subIn KX2 F.vB)) (PySem.W.ks_ne KX2 IA2 hcdD) (by decide) ?_
    · exact fun A Q E s k q => wpAny_bind ((PySem.W.looks_clsIn KX2 hcdD) A _ E s k (wpAny_pure q))
    · have := F.si
      unfold PySem.W.ks_superIn at this
      rw [hcdD] at this
      exact this
    -- the wrapper is called
    have J2 := J1.kept (h' := h2.push (PySem.W.kxs_mw "ValueError.__init__" a)) (t' := t + ([ar.arg, n1].zip [Value.ref a, u1]).length + 1) fun b o e => Heap.get?_push_of_some _ e
    have hu : (h2.push (PySem.W.kxs_mw "ValueError.__init__" a)).get? h2.objs.size = some (PySem.W.kxs_mw "ValueError.__init__" a) := Heap.get?_push_size _ rfl
    have J2' : Inv (supCx CX P w K mg base [ar.arg, n1] qual scope fI (.ref cda) cc A outer ⟨hs0, g, d, t, os⟩ H E) [(h2.objs.size, PySem.W.kxs_mw "ValueError.__init__" a)] _ H _ := J2.pins_of fun p hp => by
      have hp' : p = (h2.objs.size, PySem.W.kxs_mw "ValueError.__init__" a) := by simpa [supCx] using hp
      subst hp'
      exact ⟨hu, J1.hok.fresh (Nat.le_refl _), Nat.ne_of_gt J1.lt, J1.nofs (Nat.le_refl _), fun v z => by cases z⟩
    refine PySem.W.kxs_callWith (i := "ValueError.__init__") (x := a) rfl (evalArgs_plain ?_)
    refine thn ((pa_cons (X := supCx CX P w K mg base [ar.arg, n1] qual scope fI (.ref cda) cc A outer ⟨hs0, g, d, t, os⟩ H E) (pe_str (x := c) (j := jd) (pos := cp)) pa_nil rfl).run cpos _ _ _ H (fun vs H' => vs = [.str c] ∧ H' = H) J2' ?_) ?_
    · exact ⟨rfl, rfl⟩
    rintro us s3 ⟨vs3, H3, J3, r3, rfl, rfl⟩
    have hu3 : s3.heap.get? h2.objs.size = some (PySem.W.kxs_mw "ValueError.__init__" a) := (J3.pin (h2.objs.size, PySem.W.kxs_mw "ValueError.__init__" a) (List.mem_append_right _ (List.mem_singleton.mpr rfl))).1
    have J4 : Inv (supCx CX P w K mg base [ar.arg, n1] qual scope fI (.ref cda) cc A outer ⟨hs0, g, d, t, os⟩ H3 E) [] _ H3 s3 := J3.unpinned (pins := [])
    refine ⟨hu3, ?_⟩
    obtain ⟨nm, q', N, bs, bm, sn, sub, ab, col, dd, k0, k1, k2', k3, k5, hC, hbm⟩ := F.ox.cls
    obtain ⟨t2, ho⟩ := exo_at J4.hok ea
    have hC3 := J4.kIn _ _ hC
    obtain ⟨h3, g3, d3, t3, os3⟩ := s3
    have hl3 : us.length ≤ sizeLine := by
      rw [← r3.length]; exact (by decide : 1 ≤ sizeLine)
    refine call_mw hC3 ho hu3 hl3 fun h4 t4 k4 hx4 => ?_
    have J5 := J4.write (h' := h4) (t' := t3) (x := a) (e := a) (o := exo a D none) (by rw [ea]; exact True.intro) (.inl rfl) k4 ⟨_, hx4⟩ (exo_ok hx4)
    have eu : upd H3 a (exo a D none) = H3 := by
      funext b
      by_cases hb : b = a
      · rw [hb, upd_same, ea]
      · rw [upd_ne hb]
    rw [eu] at J5
    -- the field is stored
    have st := (pss_one (ps_ost (X := supCx CX P w K mg base [ar.arg, n1] qual scope fI (.ref cda) cc A outer ⟨hs0, g, d, t, os⟩ H3 E) (o := .Name ar.arg q0) (e := .Name n1 q2) (f := f) (p' := q1) (pos := apos) (pe_var (i := 0) rfl (.inl l0) F.db.1 F.db.2.2.1) (pe_var (i := 1) rfl (.inl l1) F.db.2.1 F.db.2.2.2) rfl)).run [] _ _ H3
      { nx := fun _ H' => Q .non H', rt := Q, bk := fun _ _ => False, ct := fun _ _ => False } J5 ⟨v, rfl, .ref a, rfl, a, D, rfl, F.ox, F.no, .inl ⟨ea, q⟩⟩
    refine PySem.wpAt_of_wpAny (wpAny_mono st (fun fl s' hs => ?_) fun e s' hs => hs)
    have fin : ∀ {σ' : L2.St} {H' : Hp} {v : V} {u : Value}, Inv (supCx CX P w K mg base [ar.arg, n1] qual scope fI (.ref cda) cc A outer ⟨hs0, g, d, t, os⟩ H3 E) [] σ' H' s' → RelV v u → Q v H' → CE outer P w H3 ⟨hs0, g, d, t, os⟩ Q u s' :=
      fun {σ' H' v u} J rv q => ⟨v, H', J.os, J.bare, J.base, J.hok, rv, q⟩
    cases fl with
    | ret u =>
      obtain ⟨v, σ', H', J, rv, q⟩ := hs
      exact fin J rv q
    | next =>
      obtain ⟨σ', H', J, q⟩ := hs
      exact fin (v := V.non) (u := Value.none) J rfl q
    | brk =>
      obtain ⟨_, _, _, q⟩ := hs
      exact False.elim q
    | cont =>
      obtain ⟨_, _, _, q⟩ := hs
      exact False.elim q
end
end Dn
set_option Elab.async false
set_option linter.all false
set_option maxRecDepth 100000
set_option maxHeartbeats 800000
/-! Raising an own exception; a try whose first clause, named, takes what comes. -/
namespace Dn
open PySem L2 Evl PySem.Spec PyProof.Rows

/-! ### raise C(e) -/
def dRaise (c f : Nat) (d : Den) : SDen := fun σ h => (d σ h).toS σ fun x h1 => .ex c [(f, x)] σ h1
section
variable {X : Cx} {T : Tb} {Wx : WX} {ω ω' : Wo} {H H' : Hp} {h h' : AH} {s : L2.St} {D : Ends}
theorem s_raise {c f k : Nat} {fI : Addr} {fd : FuncData} {qual n0 n1 y x : Str} {msg : Str} {e : Expr} {d : Den} {p pos rpos : Pos} (hcalm : X.calm = true) (tk : Takes X Wx) (hr : Room (k + 2) X.A) (hy : T.nm[f]? = some y)
    (F : SupF X.prog X.K X.mg (T.ca c) fI fd qual n0 n1 y msg) (hb : Binds X.K fd [n0, n1] []) (hg : Gl X x) (hm : X.mg x = some (.ref (T.ca c))) (he : PE X e (tE X.K T Wx d)) (hst : NoStar e) (hdb : (x == ("__debug__" : Str)) = false) :
    PS X (.Raise (some (.Call (.Name x p) [e] [] pos)) none rpos) (tS X.K T Wx (dRaise c f d)) := by
  have FN : FnOk X.prog X.w X.K X.mg X.base (L2.CX X.prog X.w) (k + 1) fI fd [n0, n1] (spSup (T.ca c) y) := fn_sup F
  have mk := pmk_oex (p := p) (pos := pos) (dvs := []) F.ox F.iC F.tI FN hr hb .nil (fun _ _ _ _ _ _ _ z => z.choose_spec.choose_spec.choose_spec.choose_spec.choose_spec.2.2.2.2.2.2.2.elim) hg hm (pa_cons he pa_nil (hst [] X.env)) hdb (hst [] X.env) rfl
  refine ps_to (ps_raise hcalm tk mk) fun D s H q => ?_
  obtain ⟨ω, σ, h, er, r, pp⟩ := q
  show tMkO _ _ _ _ s H _
  unfold tMkO
  show tCons (tE X.K T Wx d) tNil s H _
  refine tE_toS er r ?_ pp
  intro w h1 v H1 ω1 l r1 rw1 p1
  refine ⟨(by show 1 ≤ 1000; decide), fun a ha => ⟨a, v, rfl, upd_same, fun dx hdx nda => ⟨rfl, dx, [(y, v)], upd_same, ?_, ?_, ?_⟩⟩⟩
  · rw [upd_ne nda, upd_same]
  · rwa [upd_ne nda] at hdx
  · have hdx' : H1 dx = none := by rwa [upd_ne nda] at hdx
    have eqH : upd (del (upd (upd (upd H1 a (exo a (T.ca c) none)) dx (exd dx [(y, v)])) a (exo a (T.ca c) (some dx))) a) dx (.xd [(y, v)]) = upd H1 dx (.xd [(y, v)]) := by
      funext b
      by_cases hbd : b = dx
      · rw [hbd, upd_same, upd_same]
      · rw [upd_ne hbd, upd_ne hbd]
        by_cases hba : b = a
        · rw [hba, del_same, ha]
        · rw [del_ne hba, upd_ne hba, upd_ne hbd, upd_ne hba]
    rw [eqH]
    have l2 := r1.leF hdx' (.xd [(y, v)])
    exact p1 s ω1 (Wo.Le.refl _) (er.mono l) _ _ dx [(y, v)] l2 (r1.fz hdx' _) upd_same ⟨y, v, [], hy, rfl, rw1.mono l2, rfl⟩
end

/-! ### try .. except x as n: suite, and clauses behind it that are not reached -/
section
variable {X : Cx} {x n : Str} {cv : Value} {j : Nat} {body su : List Stmt} {s0 : Stmt} {np pos pc : Pos} {later : List ExceptHandler} {tb : WX → TS} {ts : Addr → Value → Option Addr → TS}
/-- the ends of a suite whose name goes -/
def goneD (j : Nat) (D : Ends) : Ends := { nx := fun σ H => D.nx (σ.set j none) H, rt := D.rt, bk := fun σ H => D.bk (σ.set j none) H, ct := fun σ H => D.ct (σ.set j none) H }
/-- the wish: the clause takes it -/
def wTake (K : PySem.W.Frag) (cv : Value) (j : Nat) (ts : Addr → Value → Option Addr → TS) (D : Ends) : WX := fun cls d σ H =>
  PySem.W.exmOne K cls cv = some true ∧ ∀ a, H a = none → ts a cls d (goneD j D) (σ.set j (some (.ref a))) H
theorem ps_tryR (stk : X.stack = X.env :: X.outer) (fr : X.env.frame = some X.env.locals) (nd : X.N.Nodup) (at_ : X.N[j]? = some n) (loc : X.env.kindOf n = some .local) (nm : Names X x cv)
    (hb : ∀ (W : WX) (pn : List (Addr × Obj)) (xe : Value → Shared → Prop), Takes (X.tr pn xe) W → PSs (X.tr pn xe) body (tb W))
    (hsu : ∀ (a : Addr) (o : Obj) (cls : Value) (d : Option Addr) (pn : List (Addr × Obj)), Zc cls d o → (∃ vs, o.data = .fields vs) → PSs (X.suite a ((a, o) :: pn)) (s0 :: su) (ts a cls d)) :
    PS X (.Try body (.ExceptHandler (some (.Name x np)) (some n) (s0 :: su) pc :: later) [] [] pos) (fun D σ H => tb (wTake X.K cv j ts D) D σ H) := by
  refine ⟨fun pins s σ H D I rd => wpAny_Try_except ?_⟩
  have okX := I.ok
  have frames : X.A.frames = some (X.env :: X.outer) := okX.frames.trans (by rw [stk])
  have caught : Takes (X.tr (X.pn ++ pins) fun e s1 => wpAny (model X.prog X.w) X.A (noteFrame e X.env) (fun _ s2 => wpAny (model X.prog X.w) X.A (setFlight e none) (fun _ s3 =>
      wpAny (model X.prog X.w) X.A (handleBy e X.env (.ExceptHandler (some (.Name x np)) (some n) (s0 :: su) pc :: later)) (SP X pins D) X.xe s3) X.xe s2) X.xe s1) (wTake X.K cv j ts D) := by
    rintro u sT ⟨a, B, sI, pz, σ1, H1, cls, d, rfl, IT, nb, up, sky, ha, ho, hg, hm, hts⟩
    have IX : Inv X pins σ1 H1 sI := IT.ofTry okX
    refine Sky.land Zc.steady frames fr (by rw [← stk]; exact sky) fun g1 fl1 up1 => ?_
    have I1 : Inv X pins σ1 H1 { sT with heap := g1 } := IX.landed nb fl1.1 (up.trans up1) ho hg
    obtain ⟨o1, ws1, q1, z1, t1⟩ := fl1.there
    have outside : a ∉ frs (X.env :: X.outer) := fun mem => by
      obtain ⟨_, o', e', nofld⟩ := fl1.2.2.1.mem mem
      exact nofld _ (by rw [q1] at e'; cases e'; exact t1)
    have aL : a ≠ X.env.locals := fun e => outside (List.mem_filterMap.mpr ⟨_, List.mem_cons_self, by rw [fr, e]⟩)
    have aF : a ∉ X.fs := fun mem => by
      obtain ⟨v, hv, qv⟩ := List.mem_filterMap.mp mem
      exact outside (List.mem_filterMap.mpr ⟨v, List.mem_cons_of_mem _ hv, qv⟩)
    have S1 := I1.suite q1 t1 ha aL aF
    refine wpAny_handleBy_cons (codeAny_handlers_test ?_) (fun z => by cases z)
    have looksCls : PySem.W.Looks (model X.prog X.w) g1 (typeOf (.ref a)) cls := fun _ _ _ _ up' hQ => wpAny_typeOf_ref (up' _ _ q1) (by rw [z1.1]; exact hQ)
    have clause := PySem.W.exm_one (M := model X.prog X.w) I1.kIn looksCls hm
    have named : ∀ {Q E : Value → Shared → Prop}, Q cv { sT with heap := g1 } → wpAny (model X.prog X.w) (X.A.mark (some (.ref a))) (eval (.Name x np) X.env) Q E { sT with heap := g1 } := fun hQ => by
      rcases nm with ⟨gl, dbg, hit | ⟨miss, boot, notName⟩⟩
      · exact ld_glob (X := X.suite a ((a, o1) :: (X.pn ++ pins))) S1 gl hit hQ dbg
      · exact ld_blt (X := X.suite a ((a, o1) :: (X.pn ++ pins))) S1 gl miss boot hQ notName dbg
    refine named (clause.here (codeAny_handlers_suite_as (HandSPX.lands_againZ fl1 fun g2 fl2 up2 => ?_)))
    have I2 : Inv X pins σ1 H1 { sT with heap := g2 } := IX.landed nb fl2.1 ((up.trans up1).trans up2) ho hg
    obtain ⟨o2, ws2, q2, z2, t2⟩ := fl2.there
    have S2 := I2.suite q2 t2 ha aL aF
    refine store_ok (X := X.suite a ((a, o2) :: (X.pn ++ pins))) (v := .ref a) S2 nd at_ (.inl loc) rfl (fun s5 S5 => ?_) (.inr loc)
    have goes : ∀ {σ6 : L2.St} {H6 : Hp} {Q : Shared → Prop} {s6 : Shared}, Inv (X.suite a ((a, o2) :: (X.pn ++ pins))) [] σ6 H6 s6 → (∀ s7, Inv X pins (σ6.set j none) H6 s7 → Q s7) →
        wpAny (model X.prog X.w) X.A (do bindName X.env n .none; unbindBehindTheSuite X.env n pc) (fun _ s7 => Q s7) X.xe s6 := fun S6 hq => gone_ok (S6.unsuite okX) nd at_ loc hq
    refine wpAny_mono ((hsu a o2 cls d (X.pn ++ pins) z2 ⟨_, t2⟩).run [] s5 _ H1 _ S5 (hts a ha)) (fun fl s6 end_ => ?_) (fun _ _ z => z.elim)
    match fl, end_ with
    | .next, ⟨_, _, S6, w⟩ => exact goes S6 fun s7 J => ⟨_, _, J, w⟩
    | .brk, ⟨_, _, S6, w⟩ => exact goes S6 fun s7 J => ⟨_, _, J, w⟩
    | .cont, ⟨_, _, S6, w⟩ => exact goes S6 fun s7 J => ⟨_, _, J, w⟩
    | .ret u, ⟨_, _, _, S6, rv, w⟩ => exact goes S6 fun s7 J => ⟨_, _, _, J, rv, w⟩
  refine wpAny_mono ((hb _ _ _ caught).run [] s σ H D (I.toTry _) rd) (fun fl s1 end_ => ?_) fun _ _ z => z
  match fl, end_ with
  | .next, ⟨_, _, J, w⟩ => exact wpAny_execs_nil ⟨_, _, J.ofTry okX, w⟩
  | .brk, ⟨_, _, J, w⟩ => exact ⟨_, _, J.ofTry okX, w⟩
  | .cont, ⟨_, _, J, w⟩ => exact ⟨_, _, J.ofTry okX, w⟩
  | .ret u, ⟨_, _, _, J, rv, w⟩ => exact ⟨_, _, _, J.ofTry okX, rv, w⟩
end

/-! ### the suite: return of an expression of constants and of the exception's fields -/
abbrev XDen := List (Nat × W) → Option W
def tX (K : PySem.W.Frag) (T : Tb) (j : Nat) (a : Addr) (cls : Value) (d : Option Addr) (cs : List Nat) (g : XDen) : TE := fun s H Q => ∃ ω h c fs gs dd, s[j]? = some (some (.ref a)) ∧ cls = .ref (T.ca c) ∧ c ∈ cs ∧ d = some dd ∧ ω.F dd = some (.xd gs) ∧ FRel K T ω fs gs ∧ HRel K T ω H h ∧
  match g fs with
  | some w => After K T ω Q w h
  | none => False
def xCst (w : W) : XDen := fun _ => some w
def xFld (f : Nat) : XDen := fun fs => fs.lookup f
def xTup2 (a b : XDen) : XDen := fun fs => match a fs, b fs with
  | some x, some y => some (.tup [x, y])
  | _, _ => none
/-- x if a == b else y, of texts -/
def xIfEq (a b x y : XDen) : XDen := fun fs => match a fs, b fs with
  | some (.str u), some (.str v) => if u = v then x fs else y fs
  | _, _ => none
/-- the whole statement: the body, and what the clause gives -/
def dTryX (j : Nat) (b : SDen) (cs : List Nat) (g : XDen) : SDen := fun σ h => match b σ h with
  | .ex c fs σ1 h1 => if cs.contains c = true ∧ j < σ1.length then (match g fs with
    | some w => .rt w h1
    | none => .bad) else .bad
  | r => r
section
variable {X : Cx} {T : Tb} {j : Nat} {a : Addr} {o : Obj} {cls : Value} {d : Option Addr} {pn : List (Addr × Obj)} {cs : List Nat}
theorem x_cst {e : Expr} {w : W} {v : V} (he : PE (X.suite a ((a, o) :: pn)) e (tC v)) (rw1 : ∀ ω, Rep X.K T ω w v) : PE (X.suite a ((a, o) :: pn)) e (tX X.K T j a cls d cs (xCst w)) := pe_to he fun s H Q q => by
  obtain ⟨ω, h, c, fs, gs, dd, h1, h2, hcs, h3, h4, h5, h6, p⟩ := q
  exact p v H ω (Wo.Le.refl _) h6 (rw1 ω)
theorem x_fld {e : Expr} {f : Nat} {y : Str} {pos : Pos} (hy : T.nm[f]? = some y) (hc : ∀ c ∈ cs, XfC X.K (T.ca c) ∧ PySem.W.findIn X.K (.ref (T.ca c)) y = some none) (hz : Zc cls d o) (hf : ∃ vs, o.data = .fields vs) (he : PE (X.suite a ((a, o) :: pn)) e (tVar j))
    (hb : attributeBase e y X.env (eval e X.env) = eval e X.env) : PE (X.suite a ((a, o) :: pn)) (.Attribute e y pos) (tX X.K T j a cls d cs (xFld f)) := ⟨fun pins s σ H Q I q => by
  obtain ⟨ω, h, c, fs, gs, dd, h1, h2, hcs, h3, h4, h5, h6, p⟩ := q
  unfold xFld at p
  split at p
  · rename_i w hw
    obtain ⟨v, hv, rw1⟩ := FRel.look hy h5 hw
    refine (pe_xf (hc c hcs).1 (hc c hcs).2 hz hf he hb).run pins s σ H Q I ⟨.ref a, h1, rfl, h2, dd, gs, v, h3, h6.fr _ _ h4, hv, p v H ω (Wo.Le.refl _) h6 rw1⟩
  · exact p.elim⟩
theorem x_tup2 {e1 e2 : Expr} {g1 g2 : XDen} {k : Nat} {pos : Pos} (a1 : PE (X.suite a ((a, o) :: pn)) e1 (tX X.K T j a cls d cs g1)) (a2 : PE (X.suite a ((a, o) :: pn)) e2 (tX X.K T j a cls d cs g2)) (s1 : NoStar e1) (s2 : NoStar e2) :
    PE (X.suite a ((a, o) :: pn)) (.Tuple [e1, e2] k pos) (tX X.K T j a cls d cs (xTup2 g1 g2)) := by
  refine pe_to (pe_tup (pa_cons a1 (pa_cons a2 pa_nil (s2 [] _)) (s1 [e2] _))) fun s H Q q => ?_
  obtain ⟨ω, h, c, fs, gs, dd, h1, h2, hcs, h3, h4, h5, h6, p⟩ := q
  unfold xTup2 at p
  split at p
  · rename_i w hw
    split at hw
    · rename_i w1 w2 q1 q2
      obtain rfl := Option.some.inj hw
      refine ⟨ω, h, c, fs, gs, dd, h1, h2, hcs, h3, h4, h5, h6, ?_⟩
      rw [q1]
      intro v1 H1 ω1 l1 r1 rv1
      refine ⟨ω1, h, c, fs, gs, dd, h1, h2, hcs, h3, l1.2.1 _ _ h4, h5.mono l1, r1, ?_⟩
      rw [q2]
      intro v2 H2 ω2 l2 r2 rv2
      exact ⟨(by show 2 ≤ sizeLine; decide), newT_ok r2 (zs := [w1, w2]) (show RepL X.K T ω2 [w1, w2] [v1, v2] from ⟨v1, _, rfl, rv1.mono l2, v2, _, rfl, rv2, rfl⟩) (by show 2 ≤ sizeLine; decide) fun w' H' ω' l' r' rw' => p w' H' ω' (l1.trans (l2.trans l')) r' rw'⟩
    · cases hw
  · exact p.elim
theorem x_ifeq {A B C1 C2 : Expr} {g1 g2 g3 g4 : XDen} {pos p2 : Pos} (a1 : PE (X.suite a ((a, o) :: pn)) A (tX X.K T j a cls d cs g1)) (a2 : PE (X.suite a ((a, o) :: pn)) B (tX X.K T j a cls d cs g2)) (a3 : PE (X.suite a ((a, o) :: pn)) C1 (tX X.K T j a cls d cs g3))
    (a4 : PE (X.suite a ((a, o) :: pn)) C2 (tX X.K T j a cls d cs g4)) : PE (X.suite a ((a, o) :: pn)) (.IfExp (.Compare A [.Eq] [B] p2) C1 C2 pos) (tX X.K T j a cls d cs (xIfEq g1 g2 g3 g4)) := by
  refine pe_to (pe_ifExp (pt_cmpR op_eq a1 a2 (nomark _)) a3 a4) fun s H Q q => ?_
  obtain ⟨ω, h, c, fs, gs, dd, h1, h2, hcs, h3, h4, h5, h6, p⟩ := q
  unfold xIfEq at p
  cases q1 : g1 fs with
  | none => rw [q1] at p; exact p.elim
  | some w1 =>
  cases q2 : g2 fs with
  | none => rw [q1, q2] at p; cases w1 <;> exact p.elim
  | some w2 =>
  rw [q1, q2] at p
  cases w1 with
  | str u =>
    cases w2 with
    | str v =>
      refine ⟨ω, h, c, fs, gs, dd, h1, h2, hcs, h3, h4, h5, h6, ?_⟩
      rw [q1]
      intro v1 H1 ω1 l1 r1 rv1
      refine ⟨ω1, h, c, fs, gs, dd, h1, h2, hcs, h3, l1.2.1 _ _ h4, h5.mono l1, r1, ?_⟩
      rw [q2]
      intro v2 H2 ω2 l2 r2 rv2
      obtain ⟨rfl, _⟩ := rv1
      obtain ⟨rfl, _⟩ := rv2
      refine ⟨rfl, _, rfl, ?_⟩
      have l := l1.trans l2
      simp only [] at p
      by_cases huv : u = v
      · rw [if_pos huv] at p
        rw [huv, decide_eq_true rfl]
        show tX X.K T j a cls d cs g3 s H2 Q
        refine ⟨ω2, h, c, fs, gs, dd, h1, h2, hcs, h3, l.2.1 _ _ h4, h5.mono l, r2, ?_⟩
        cases q3 : g3 fs with
        | none => rw [q3] at p; exact p.elim
        | some w => rw [q3] at p; exact fun w' H' ω' l' => p w' H' ω' (l.trans l')
      · rw [if_neg huv] at p
        have hne : ¬ (sOf u = sOf v) := fun z => huv (by
          have := congrArg (fun s : Str => s.cps.toList) z
          simpa [sOf] using this)
        rw [decide_eq_false (fun z => hne (V.str.inj z))]
        show tX X.K T j a cls d cs g4 s H2 Q
        refine ⟨ω2, h, c, fs, gs, dd, h1, h2, hcs, h3, l.2.1 _ _ h4, h5.mono l, r2, ?_⟩
        cases q3 : g4 fs with
        | none => rw [q3] at p; exact p.elim
        | some w => rw [q3] at p; exact fun w' H' ω' l' => p w' H' ω' (l.trans l')
    | _ => exact p.elim
  | _ => exact p.elim
end
section
variable {X : Cx} {T : Tb} {Wx : WX} {x n : Str} {cv : Value} {j : Nat} {body : List Stmt} {np pos pc rpos : Pos} {later : List ExceptHandler} {b : SDen} {cs : List Nat} {g : XDen} {e : Expr}
theorem s_tryX (stk : X.stack = X.env :: X.outer) (fr : X.env.frame = some X.env.locals) (nd : X.N.Nodup) (at_ : X.N[j]? = some n) (loc : X.env.kindOf n = some .local) (nm : Names X x cv) (hm : ∀ c ∈ cs, PySem.W.exmOne X.K (.ref (T.ca c)) cv = some true)
    (hb : ∀ (W : WX) (pn : List (Addr × Obj)) (xe : Value → Shared → Prop), Takes (X.tr pn xe) W → PSs (X.tr pn xe) body (tS X.K T W b))
    (he : ∀ (a : Addr) (o : Obj) (cls : Value) (d : Option Addr) (pn : List (Addr × Obj)), Zc cls d o → (∃ vs, o.data = .fields vs) → PE (X.suite a ((a, o) :: pn)) e (tX X.K T j a cls d cs g)) :
    PS X (.Try body (.ExceptHandler (some (.Name x np)) (some n) [.Return (some e) rpos] pc :: later) [] [] pos) (tS X.K T Wx (dTryX j b cs g)) := by
  refine ps_to (ps_tryR (later := later) (np := np) (pc := pc) (pos := pos) stk fr nd at_ loc nm hb (fun a o cls d pn z f => pss_one (ps_ret (pos := rpos) (he a o cls d pn z f)))) fun D s H q => ?_
  obtain ⟨ω, σ, h, er, r, p⟩ := q
  refine ⟨ω, σ, h, er, r, ?_⟩
  unfold dTryX at p
  cases q1 : b σ h with
  | nx σ1 h1 => rw [q1] at p; exact p
  | rt w h1 => rw [q1] at p; exact p
  | bk σ1 h1 => rw [q1] at p; exact p
  | ct σ1 h1 => rw [q1] at p; exact p
  | bad => rw [q1] at p; exact p
  | ex c fs σ1 h1 =>
    rw [q1] at p
    simp only [] at p
    intro s' ω1 l1 e1 H2 ω2 d gs l2 r2 hd hf
    by_cases hc : cs.contains c = true ∧ j < σ1.length
    · rw [if_pos hc] at p
      have hc' : c ∈ cs := by simpa using hc.1
      refine ⟨hm c hc', fun a ha => ⟨ω2, h1, c, fs, gs, d, ?_, rfl, hc', rfl, hd, hf, r2, ?_⟩⟩
      · have hl : j < s'.length := by rw [e1.1]; exact hc.2
        exact List.getElem?_set_self hl
      · cases q3 : g fs with
        | none => rw [q3] at p; exact p.elim
        | some w => rw [q3] at p; exact fun w' H' ω' l' r' rw' => p w' H' ω' (l1.trans (l2.trans l')) r' rw'
    · rw [if_neg hc] at p; exact p.elim
end
end Dn
set_option Elab.async false
set_option linter.all false
set_option maxRecDepth 100000
set_option maxHeartbeats 800000
/-! List comprehensions: [e for x in xs if c]. -/
namespace Dn
open PySem L2 Evl

abbrev WxF : WX := fun _ _ _ _ => False
def wipeW (σ : Ev) : List Nat → Ev
  | [] => σ
  | v :: vs => (wipeW σ vs).set v none
/-- several names, one after the other -/
def setLW : List Nat → List W → Ev → Ev
  | j :: js, x :: xs, σ => setLW js xs (σ.set j (some x))
  | _, _, σ => σ
/-- the target: one name, or a tuple of names -/
inductive Tg where
  | one (j : Nat) | tup (js : List Nat)
def stoW : Tg → W → Ev → Option Ev
  | .one j, x, σ => some (σ.set j (some x))
  | .tup js, x, σ => match tupOf x with
    | some xs => if xs.length = js.length then some (setLW js xs σ) else none
    | none => none
def condW : Option Den → Ev → AH → Option (Bool × AH)
  | none, _, h => some (true, h)
  | some d, σ, h => match dT d σ h with
    | .ok b h1 => some (b, h1)
    | _ => none
def lcTurn (tg : Tg) (vs : List Nat) (c : Option Den) (e : Den) (σ0 : Ev) (x : W) (acc : List W) (h : AH) : Option (List W × AH) := match stoW tg x (wipeW σ0 vs) with
  | some σ1 => match condW c σ1 h with
    | some (true, h1) => match e σ1 h1 with
      | .ok y h2 => if acc.length < 1000000 then some (acc ++ [y], h2) else none
      | _ => none
    | some (false, h1) => some (acc, h1)
    | none => none
  | none => none
def lcW (sr : Src) (tg : Tg) (vs : List Nat) (c : Option Den) (e : Den) (σ0 : Ev) : Nat → Nat → List W → AH → Option (List W × AH)
  | 0, i, acc, h => match sr h with
    | some xs => if xs.length ≤ i then some (acc, h) else none
    | none => none
  | f + 1, i, acc, h => match sr h with
    | some xs => match xs[i]? with
      | some x => match lcTurn tg vs c e σ0 x acc h with
        | some (acc1, h1) => lcW sr tg vs c e σ0 f (i + 1) acc1 h1
        | none => none
      | none => some (acc, h)
    | none => none
def lcEnd (m : Bool) : Option (List W × AH) → R W
  | some (zs, h) => .opt (newL m zs h)
  | none => .bad
def dLc (m : Bool) (src : IDen) (tg : Tg) (vs : List Nat) (c : Option Den) (e : Den) : Den := fun σ h => (src σ h).andThen fun sr h1 => match sr h1 with
  | some xs => lcEnd m (lcW sr tg vs c e σ xs.length 0 [] h1)
  | none => .bad

section
variable {K : PySem.W.Frag} {T : Tb} {Wx : WX} {ω ω' : Wo} {H H' : Hp} {h h' : AH} {s : L2.St} {D : Ends}
def gNames : List Nat → TGs
  | [] => gNil
  | j :: js => gCons (gName j) (gNames js)
def Tg.g (K : PySem.W.Frag) : Tg → TG
  | .one j => gName j
  | .tup js => gTup K js.length (gNames js)
def Tg.js : Tg → List Nat
  | .one j => [j]
  | .tup js => js
theorem wipe_comm (σ : L2.St) (a b : Nat) : (σ.set a none).set b none = (σ.set b none).set a none := by
  by_cases h : a = b
  · rw [h]
  · exact List.set_comm _ _ h
theorem wipe_set {σ : L2.St} {j : Nat} : ∀ {vs : List Nat}, wipe (σ.set j none) vs = (wipe σ vs).set j none
  | [] => rfl
  | v :: vs => by
    unfold wipe
    rw [wipe_set, wipe_comm]
theorem wipe_in {σ : L2.St} {j : Nat} {x : Option V} : ∀ {vs : List Nat}, j ∈ vs → wipe (σ.set j x) vs = wipe σ vs
  | [], hj => by cases hj
  | v :: vs, hj => by
    unfold wipe
    by_cases hjv : j = v
    · subst hjv
      rw [← wipe_set, ← wipe_set, List.set_set]
    · rw [wipe_in ((List.mem_cons.mp hj).resolve_left hjv)]
theorem wipe_wipe (σ : L2.St) : ∀ vs : List Nat, wipe (wipe σ vs) vs = wipe σ vs
  | [] => rfl
  | v :: vs => by
    show (wipe ((wipe σ vs).set v none) vs).set v none = (wipe σ vs).set v none
    rw [wipe_set, wipe_wipe σ vs, List.set_set]
theorem ERel.wipes {σ : Ev} {s : L2.St} (e : ERel K T ω σ s) : ∀ vs : List Nat, ERel K T ω (wipeW σ vs) (L2.wipe s vs)
  | [] => e
  | v :: vs => (ERel.wipes e vs).wipe v
theorem g_names {vs : List Nat} {Q : L2.St → Hp → Prop} {s0 : L2.St} : ∀ {js : List Nat} {xs : List W} {us : List V} {σ : Ev} {s : L2.St}, (∀ j ∈ js, j ∈ vs) → xs.length = js.length → RepL K T ω xs us → ERel K T ω σ s → wipe s vs = wipe s0 vs →
    (∀ s', ERel K T ω (setLW js xs σ) s' → wipe s' vs = wipe s0 vs → Q s' H) → gNames js us s H Q
  | [], [], us, σ, s, _, _, r, e, hw, q => ⟨r, q s e hw⟩
  | j :: js, x :: xs, us, σ, s, hj, hl, ⟨u, t, eu, r1, r2⟩, e, hw, q =>
    ⟨u, t, eu, g_names (fun i hi => hj i (List.mem_cons_of_mem _ hi)) (by simpa using hl) r2 (e.set r1 j) ((wipe_in (hj j (List.mem_cons_self ..))).trans hw) q⟩
theorem sto_ok {tg : Tg} {vs : List Nat} {x : W} {u : V} {σ σ1 : Ev} {s0 : L2.St} {Q : L2.St → Hp → Prop} (hj : ∀ j ∈ tg.js, j ∈ vs) (e : ERel K T ω σ s0) (r : HRel K T ω H h) (rx : Rep K T ω x u) (hs : stoW tg x (wipeW σ vs) = some σ1)
    (q : ∀ s', ERel K T ω σ1 s' → wipe s' vs = wipe s0 vs → Q s' H) : tg.g K u (wipe s0 vs) H Q := by
  cases tg with
  | one j =>
    obtain rfl := Option.some.inj hs
    exact q _ ((e.wipes vs).set rx j) ((wipe_in (hj j (by simp [Tg.js]))).trans (wipe_wipe s0 vs))
  | tup js =>
    unfold stoW at hs
    simp only [] at hs
    split at hs
    · rename_i xs hx
      split at hs
      · rename_i hl
        obtain rfl := Option.some.inj hs
        obtain ⟨a, us, rfl, sq, hz, ru⟩ := tup_at r rx hx
        exact ⟨a, us, rfl, sq, by rw [ru.length]; exact hl, g_names hj hl ru (e.wipes vs) (wipe_wipe s0 vs) q⟩
      · cases hs
    · cases hs
/-- the condition's reading -/
def tCond (K : PySem.W.Frag) (T : Tb) : Option Den → TT
  | none => tYes
  | some d => tT K T WxF (dT d)
theorem cond_ok {c : Option Den} {σ : Ev} {b : Bool} {h1 : AH} {Q : Bool → Hp → Prop} (e : ERel K T ω σ s) (r : HRel K T ω H h) (hc : condW c σ h = some (b, h1)) (q : ∀ H' ω', ω.Le ω' → HRel K T ω' H' h1 → Q b H') : tCond K T c s H Q := by
  cases c with
  | none =>
    obtain ⟨rfl, rfl⟩ := Prod.mk.inj (Option.some.inj hc)
    exact q H ω (Wo.Le.refl _) r
  | some d =>
    refine ⟨ω, σ, h, e, r, ?_⟩
    unfold condW at hc
    simp only [] at hc
    split at hc
    · rename_i b' h2 hd
      obtain ⟨rfl, rfl⟩ := Prod.mk.inj (Option.some.inj hc)
      rw [hd]
      exact q
    · cases hc
/-- the list being made is another's -/
def Wo.hold (ω : Wo) (p : Addr) (o : HO) : Wo := ⟨ω.ρ, ω.F, upd ω.G p o⟩
theorem le0_hold (ω : Wo) (p : Addr) (o : HO) : ω.Le0 (ω.hold p o) := ⟨fun _ _ z => z, Ex.refl ω.F⟩
theorem hold_new (r : HRel K T ω H h) {p : Addr} (hp : H p = none) (o : HO) : HRel K T (ω.hold p o) (upd H p o) h where
  fr := r.fr.trans (Ex.new hp)
  len := r.len
  nd := r.nd
  off := r.off
  gr := fun a u e => by
    by_cases ha : a = p
    · subst ha
      have e' : upd ω.G a o a = some u := e
      rw [upd_same] at e' ⊢; exact e'
    · have e' : upd ω.G p o a = some u := e
      rw [upd_ne ha] at e' ⊢; exact r.gr a u e'
  offG := fun a u e => by
    by_cases ha : a = p
    · subst ha; exact ⟨r.nF hp, r.nρ hp⟩
    · have e' : upd ω.G p o a = some u := e
      rw [upd_ne ha] at e'; exact r.offG a u e'
  at_ := fun i u a hi ha => by
    have ne : a ≠ p := fun z => r.nρ hp (z ▸ List.mem_of_getElem? ha)
    rw [upd_ne ne]
    exact (r.at_ i u a hi ha).mono0 (le0_hold ω p o)
/-- it grows -/
theorem hold_wr (r : HRel K T ω H h) {p : Addr} {u0 : HO} (hp : ω.G p = some u0) (o : HO) : HRel K T (ω.hold p o) (upd H p o) h where
  fr := fun a u e => by
    have e' : ω.F a = some u := e
    have ne : a ≠ p := fun z => by rw [z, (r.offG p _ hp).1] at e'; cases e'
    rw [upd_ne ne]; exact r.fr a u e
  len := r.len
  nd := r.nd
  off := r.off
  gr := fun a u e => by
    by_cases ha : a = p
    · subst ha
      have e' : upd ω.G a o a = some u := e
      rw [upd_same] at e' ⊢; exact e'
    · have e' : upd ω.G p o a = some u := e
      rw [upd_ne ha] at e' ⊢; exact r.gr a u e'
  offG := fun a u e => by
    by_cases ha : a = p
    · subst ha; exact r.offG _ _ hp
    · have e' : upd ω.G p o a = some u := e
      rw [upd_ne ha] at e'; exact r.offG a u e'
  at_ := fun i u a hi ha => by
    have ne : a ≠ p := fun z => (r.offG p _ hp).2 (z ▸ List.mem_of_getElem? ha)
    rw [upd_ne ne]
    exact (r.at_ i u a hi ha).mono0 (le0_hold ω p o)
/-- given back: it stands for good -/
def Wo.giveF (ω : Wo) (p : Addr) (o : HO) (G : Hp) : Wo := ⟨ω.ρ, upd ω.F p o, G⟩
theorem give_F (r : HRel K T ω H h) {p : Addr} {o : HO} {G : Hp} (hp : ω.G = upd G p o) (hG : G p = none) : HRel K T (ω.giveF p o G) H h ∧ ω.Le0 (ω.giveF p o G) := by
  have hpG : ω.G p = some o := by rw [hp, upd_same]
  have l0 : ω.Le0 (ω.giveF p o G) := ⟨fun _ _ z => z, Ex.new (r.offG p _ hpG).1⟩
  have sub : ∀ a u, G a = some u → a ≠ p ∧ ω.G a = some u := fun a u e => by
    have ne : a ≠ p := fun z => by rw [z, hG] at e; cases e
    exact ⟨ne, by rw [hp, upd_ne ne]; exact e⟩
  refine ⟨⟨fun a u e => ?_, r.len, r.nd, fun a ha => ?_, fun a u e => r.gr a u (sub a u e).2, fun a u e => ?_, fun i u a hi ha => (r.at_ i u a hi ha).mono0 l0⟩, l0⟩
  · by_cases ha : a = p
    · subst ha
      have e' : upd ω.F a o a = some u := e
      rw [upd_same] at e'
      rw [← e']; exact r.gr a o hpG
    · have e' : upd ω.F p o a = some u := e
      rw [upd_ne ha] at e'; exact r.fr a u e'
  · have ne : a ≠ p := fun z => (r.offG p _ hpG).2 (z ▸ ha)
    show upd ω.F p o a = none
    rw [upd_ne ne]; exact r.off a ha
  · obtain ⟨ne, e2⟩ := sub a u e
    refine ⟨?_, (r.offG a u e2).2⟩
    show upd ω.F p o a = none
    rw [upd_ne ne]; exact (r.offG a u e2).1
/-- given back: an object that may change -/
def Wo.giveA (ω : Wo) (p : Addr) (G : Hp) : Wo := ⟨ω.ρ ++ [p], ω.F, G⟩
theorem give_A (r : HRel K T ω H h) {p : Addr} {o : HO} {G : Hp} {b : AO} (hp : ω.G = upd G p o) (hG : G p = none) (q : ORel K T ω b (some o)) : HRel K T (ω.giveA p G) H (h ++ [b]) ∧ ω.Le0 (ω.giveA p G) ∧ (ω.giveA p G).ρ[h.length]? = some p := by
  have hpG : ω.G p = some o := by rw [hp, upd_same]
  have hpF := (r.offG p _ hpG).1
  have hpρ := (r.offG p _ hpG).2
  have l0 : ω.Le0 (ω.giveA p G) := ⟨fun n q e => by
    show (ω.ρ ++ [p])[n]? = some q
    rw [List.getElem?_append_left (List.getElem?_eq_some_iff.mp e).1]; exact e, Ex.refl _⟩
  have sub : ∀ a u, G a = some u → a ≠ p ∧ ω.G a = some u := fun a u e => by
    have ne : a ≠ p := fun z => by rw [z, hG] at e; cases e
    exact ⟨ne, by rw [hp, upd_ne ne]; exact e⟩
  refine ⟨⟨r.fr, ?_, ?_, fun a ha => ?_, fun a u e => r.gr a u (sub a u e).2, fun a u e => ?_, fun i u a hi ha => ?_⟩, l0, ?_⟩
  · show (ω.ρ ++ [p]).length = _
    rw [List.length_append, List.length_append, r.len]; rfl
  · exact List.nodup_append.mpr ⟨r.nd, by simp, fun a ha b hb => by
      have : b = p := by simpa using hb
      subst this
      exact fun z => hpρ (z ▸ ha)⟩
  · have ha' : a ∈ ω.ρ ++ [p] := ha
    rcases List.mem_append.mp ha' with z | z
    · exact r.off a z
    · have : a = p := by simpa using z
      subst this; exact hpF
  · obtain ⟨ne, e2⟩ := sub a u e
    refine ⟨(r.offG a u e2).1, fun hm => ?_⟩
    have hm' : a ∈ ω.ρ ++ [p] := hm
    rcases List.mem_append.mp hm' with z | z
    · exact (r.offG a u e2).2 z
    · exact ne (by simpa using z)
  · have ha' : (ω.ρ ++ [p])[i]? = some a := ha
    by_cases hl : i < h.length
    · rw [List.getElem?_append_left hl] at hi
      rw [List.getElem?_append_left (by rw [r.len]; exact hl)] at ha'
      exact (r.at_ i u a hi ha').mono0 l0
    · have hi0 : i = h.length := by
        have := (List.getElem?_eq_some_iff.mp hi).1
        rw [List.length_append] at this
        simp at this; omega
      subst hi0
      rw [List.getElem?_append_right (Nat.le_refl _)] at hi
      rw [List.getElem?_append_right (by rw [r.len]; exact Nat.le_refl _), r.len] at ha'
      simp at hi ha'
      subst hi; subst ha'
      rw [r.gr p o hpG]; exact q.mono0 l0
  · show (ω.ρ ++ [p])[h.length]? = some p
    rw [← r.len, List.getElem?_append_right (Nat.le_refl _)]; simp
theorem mil {n : Nat} (h : n < 1000000) : n < sizeLine := Nat.lt_of_lt_of_le h (by rw [sizeLine_eq]; decide)
theorem tE_lc {m : Bool} {src : IDen} {tg : Tg} {vs : List Nat} {c : Option Den} {e : Den} {Q : VK} (hj : ∀ j ∈ tg.js, j ∈ vs) (q : tE K T Wx (dLc m src tg vs c e) s H Q) : tLc (tI K T Wx src) (tg.g K) (tCond K T c) (tE K T WxF e) vs s H Q := by
  obtain ⟨ω, σ, h, er, r, p⟩ := q
  refine ⟨ω, σ, h, er, r, ?_⟩
  unfold dLc at p
  cases q : src σ h with
  | bad => rw [q] at p; exact p
  | ex c fs h1 => rw [q] at p; exact p
  | ok sr h1 =>
    rw [q] at p
    simp only [R.andThen] at p
    intro J H1 ω1 l r1 it D hD
    cases q1 : sr h1 with
    | none => rw [q1] at p; exact p.elim
    | some xs =>
      rw [q1] at p
      have GD : ω1.G D = none := by
        cases z : ω1.G D with
        | none => rfl
        | some o => have := r1.gr D o z; rw [hD] at this; cases this
      refine ⟨fun i m' H2 => ∃ ω2 h2 acc us, ω1.Le0 ω2 ∧ HRel K T ω2 H2 h2 ∧ ω2.G = upd ω1.G D (.lst us) ∧ RepL K T ω2 acc us ∧ acc.length ≤ 1000000 ∧ EP' K T Wx ω s Q (lcEnd m (lcW sr tg vs c e σ m' i acc h2)), ⟨xs.length, ω1.hold D (.lst []), h1, [], [], ⟨fun _ _ z => z, Ex.refl _⟩, hold_new r1 hD _, rfl, rfl, Nat.zero_le _, p⟩, ?_⟩
      rintro i m' H2 ⟨ω2, h2, acc, us, l2, r2, g2, ra, hz, p2⟩
      have fin : EP' K T Wx ω s Q (lcEnd m (some (acc, h2))) → Q (.ref D) H2 := fun pe => by
        cases m with
        | false =>
          obtain ⟨r3, l3⟩ := give_F r2 g2 GD
          refine pe (.ref D) H2 _ ⟨fun n p z => l3.1 n p (l2.1 n p (l.1 n p z)), l.2.1.trans (l2.2.trans l3.2), l.2.2⟩ r3 ⟨D, us, rfl, sq_of upd_same, Nat.le_trans hz (by rw [sizeLine_eq]; decide), ra.mono0 l3⟩
        | true =>
          obtain ⟨r3, l3, at3⟩ := give_A (b := .lst acc) r2 g2 GD ⟨us, rfl, Nat.le_trans hz (by rw [sizeLine_eq]; decide), ra⟩
          exact pe (.ref D) H2 _ ⟨fun n p z => l3.1 n p (l2.1 n p (l.1 n p z)), l.2.1.trans (l2.2.trans l3.2), l.2.2⟩ r3 ⟨D, rfl, at3⟩
      cases m' with
      | zero =>
        unfold lcW at p2
        cases qs : sr h2 with
        | none => rw [qs] at p2; exact p2.elim
        | some ys =>
          rw [qs] at p2
          simp only [] at p2
          by_cases hl : ys.length ≤ i
          · rw [if_pos hl] at p2
            exact .inl ⟨it.stop ω2 H2 h2 ys i l2 r2 qs hl, fin p2⟩
          · rw [if_neg hl] at p2; exact p2.elim
      | succ m' =>
        unfold lcW at p2
        cases qs : sr h2 with
        | none => rw [qs] at p2; exact p2.elim
        | some ys =>
          rw [qs] at p2
          simp only [] at p2
          cases qx : ys[i]? with
          | none =>
            rw [qx] at p2
            exact .inl ⟨it.stop ω2 H2 h2 ys i l2 r2 qs (List.getElem?_eq_none_iff.mp qx), fin p2⟩
          | some x =>
            rw [qx] at p2
            simp only [] at p2
            obtain ⟨k1, k2⟩ := it.go ω2 H2 h2 ys i x l2 r2 qs qx
            refine .inr ⟨k1, fun H3 => ∃ ω3 h3 acc us, ω1.Le0 ω3 ∧ HRel K T ω3 H3 h3 ∧ ω3.G = upd ω1.G D (.lst us) ∧ RepL K T ω3 acc us ∧ acc.length ≤ 1000000 ∧ EP' K T Wx ω s Q (lcEnd m (lcW sr tg vs c e σ m' (i + 1) acc h3)), fun H3 w => ⟨m', Nat.lt_succ_self _, w⟩, fun v H3 y => ?_⟩
            obtain ⟨ω3, l3, r3, rx⟩ := k2 v H3 y
            have l03 := l2.trans l3.to0
            have er3 : ERel K T ω3 σ s := (er.mono l).mono0 l03
            unfold lcTurn at p2
            cases qst : stoW tg x (wipeW σ vs) with
            | none => rw [qst] at p2; exact p2.elim
            | some σ1 =>
              rw [qst] at p2
              simp only [] at p2
              refine sto_ok hj er3 r3 rx qst fun s4 e4 w4 => ⟨w4, ?_⟩
              cases qc : condW c σ1 h2 with
              | none => rw [qc] at p2; exact p2.elim
              | some bh =>
                obtain ⟨b, h4⟩ := bh
                rw [qc] at p2
                refine cond_ok e4 r3 qc fun H4 ω4 l4 r4 => ?_
                have g4 : ω4.G = upd ω1.G D (.lst us) := l4.2.2.symm.trans (l3.2.2.symm.trans g2)
                have l04 := l03.trans l4.to0
                have ra4 : RepL K T ω4 acc us := (ra.mono0 l3.to0).mono0 l4.to0
                cases b with
                | false => exact ⟨ω4, h4, acc, us, l04, r4, g4, ra4, hz, p2⟩
                | true =>
                  simp only [if_pos] at p2 ⊢
                  refine ⟨ω4, σ1, h4, e4.mono l4, r4, ?_⟩
                  cases qe : e σ1 h4 with
                  | bad => rw [qe] at p2; exact p2.elim
                  | ex cc fs h5 => rw [qe] at p2; exact p2.elim
                  | ok y h5 =>
                    rw [qe] at p2
                    simp only [] at p2
                    intro u H5 ω5 l5 r5 ry
                    by_cases hl : acc.length < 1000000
                    · rw [if_pos hl] at p2
                      have g5 : ω5.G = upd ω1.G D (.lst us) := l5.2.2.symm.trans g4
                      have hD5 : ω5.G D = some (.lst us) := by rw [g5, upd_same]
                      have ra5 : RepL K T ω5 acc us := ra4.mono0 l5.to0
                      refine ⟨us, r5.gr D _ hD5, by rw [ra5.length]; exact mil hl, ω5.hold D (.lst (us ++ [u])), h5, acc ++ [y], us ++ [u], l04.trans (l5.to0.trans ⟨fun _ _ z => z, Ex.refl _⟩), hold_wr r5 hD5 _, ?_, ?_, ?_, p2⟩
                      · show upd ω5.G D _ = _
                        rw [g5]
                        funext b
                        by_cases hb : b = D
                        · rw [hb, upd_same, upd_same]
                        · rw [upd_ne hb, upd_ne hb, upd_ne hb]
                      · exact (ra5.append (RepL.one ry)).mono0 (le0_hold _ _ _)
                      · rw [List.length_append]; exact hl
                    · rw [if_neg hl] at p2; exact p2.elim
end
end Dn
set_option Elab.async false
set_option linter.all false
set_option maxRecDepth 100000
set_option maxHeartbeats 800000
/-! The judgements of the text, construct by construct. -/
namespace Dn
open PySem L2 Evl PySem.Spec PyProof.Rows
section
variable {X : Cx} {T : Tb} {Wx : WX} {a b c e : Expr} {da db dc d : Den} {pos p p2 : Pos}
/-! ### operators -/
theorem s_bin {op : Operator} {r : R2} {f : W → W → AH → Fo} (ho : OpR X (binaryOp op) r) (hs : OpS X.K T r f) (ha : PE X a (tE X.K T Wx da)) (hb : PE X b (tE X.K T Wx db)) (hp : ∀ {ta tb : TE}, PE X a ta → PE X b tb → PE X (.BinOp a op b pos) (tOp r ta tb)) : PE X (.BinOp a op b pos) (tE X.K T Wx (dOp f da db)) :=
  pe_to (hp ha hb) fun _ _ _ q => tE_op hs q
theorem s_op {op : Operator} {r : R2} {f : W → W → AH → Fo} (ho : OpR X (binaryOp op) r) (hs : OpS X.K T r f) (ha : PE X a (tE X.K T Wx da)) (hb : PE X b (tE X.K T Wx db)) : PE X (.BinOp a op b pos) (tE X.K T Wx (dOp f da db)) :=
  pe_to (pe_op ho ha hb) fun _ _ _ q => tE_op hs q
theorem s_cmp {op : CmpOp} {r : R2} {f : W → W → AH → Fo} (ho : OpR X (compareOp op) r) (hs : OpS X.K T r f) (ha : PE X a (tE X.K T Wx da)) (hb : PE X b (tE X.K T Wx db)) (h1 : op ≠ .In) (h2 : op ≠ .NotIn) : PE X (.Compare a [op] [b] pos) (tE X.K T Wx (dOp f da db)) :=
  pe_to (pe_cmpR ho ha hb (nomark b h1 h2)) fun _ _ _ q => tE_op hs q
/-- the function gives truth values -/
def BlF (f : W → W → AH → Fo) : Prop := ∀ x y h z h', f x y h = some (z, h') → ∃ b, z = .bl b
theorem dOp_bl {f : W → W → AH → Fo} (hf : BlF f) (σ : Ev) (h : AH) (x : W) (h1 : AH) (e : dOp f da db σ h = .ok x h1) : ∃ b, x = .bl b := by
  unfold dOp at e
  cases q : da σ h with
  | ok u h2 =>
    rw [q] at e
    simp only [R.andThen] at e
    cases q2 : db σ h2 with
    | ok v h3 =>
      rw [q2] at e
      simp only [R.opt] at e
      cases q3 : f u v h3 with
      | some zh =>
        rw [q3] at e
        obtain ⟨z, h4⟩ := zh
        obtain ⟨b, rfl⟩ := hf _ _ _ _ _ q3
        cases e
        exact ⟨b, rfl⟩
      | none => rw [q3] at e; cases e
    | ex cc fs h3 => rw [q2] at e; cases e
    | bad => rw [q2] at e; cases e
  | ex cc fs h2 => rw [q] at e; cases e
  | bad => rw [q] at e; cases e
theorem t_cmp {op : CmpOp} {r : R2} {f : W → W → AH → Fo} (ho : OpR X (compareOp op) r) (hs : OpS X.K T r f) (hf : BlF f) (ha : PE X a (tE X.K T Wx da)) (hb : PE X b (tE X.K T Wx db)) (h1 : op ≠ .In) (h2 : op ≠ .NotIn) : PT X (.Compare a [op] [b] pos) (tT X.K T Wx (dT (dOp f da db))) :=
  pt_to (pt_cmpR ho ha hb (nomark b h1 h2)) fun s H Q q => tE_op hs (tT_bl q (dOp_bl hf))
theorem bl_eq {n : Bool} : BlF (eqF n) := fun x y h z h' e => by
  unfold eqF at e
  split at e
  · obtain ⟨rfl, rfl⟩ := Prod.mk.inj (Option.some.inj e); exact ⟨_, rfl⟩
  · cases e
theorem bl_lt : BlF ltF := fun x y h z h' e => by
  unfold ltF at e
  split at e
  · obtain ⟨rfl, rfl⟩ := Prod.mk.inj (Option.some.inj e); exact ⟨_, rfl⟩
  · cases e
theorem bl_is {n : Bool} : BlF (isF n) := fun x y h z h' e => by
  unfold isF at e
  split at e
  · obtain ⟨rfl, rfl⟩ := Prod.mk.inj (Option.some.inj e); exact ⟨_, rfl⟩
  · obtain ⟨rfl, rfl⟩ := Prod.mk.inj (Option.some.inj e); exact ⟨_, rfl⟩
  · cases e
theorem bl_I {g : Int → Int → Bool} : BlF (opI fun i j => .bl (g i j)) := fun x y h z h' e => by
  unfold opI at e
  split at e
  · obtain ⟨rfl, rfl⟩ := Prod.mk.inj (Option.some.inj e); exact ⟨_, rfl⟩
  · cases e
/-! the functions of the operators -/
def addF (m : Bool) : W → W → AH → Fo := orF (opI fun i j => .int (i + j)) (orF catS (orF catT (catL m)))
theorem op_addW : OpR X (binaryOp .Add) (fun x y H Q => rI0 (fun i j => .int (i + j)) x y H Q ∨ (rCatS x y H Q ∨ (rCatA X.K x y H Q ∨ rCatL X.K x y H Q))) := op_add.or (OpR.or (r := rCatS) op_add_str (op_catA.or op_catL))
theorem S_add {K : PySem.W.Frag} {m : Bool} : OpS K T (fun x y H Q => rI0 (fun i j => .int (i + j)) x y H Q ∨ (rCatS x y H Q ∨ (rCatA K x y H Q ∨ rCatL K x y H Q))) (addF m) := OpS.orF (S_I (g := fun i j => .int (i + j)) (gv := fun i j => .int (i + j)) fun _ _ _ => rfl) (S_catS.orF (S_catT.orF S_catL))
def subF : W → W → AH → Fo := opI fun i j => .int (i - j)
theorem S_sub {K : PySem.W.Frag} : OpS K T (rI0 fun i j => .int (i - j)) subF := S_I (g := fun i j => .int (i - j)) (gv := fun i j => .int (i - j)) fun _ _ _ => rfl
def mulF : W → W → AH → Fo := opIc (fun i j => decide ((-(2 ^ 64) < i ∧ i < 2 ^ 64) ∨ (-(2 ^ 64) < j ∧ j < 2 ^ 64))) fun i j => .int (i * j)
theorem S_mul {K : PySem.W.Frag} : OpS K T (rI CMul fun i j => .int (i * j)) mulF := S_Ic (C := CMul) (g := fun i j => .int (i * j)) (gv := fun i j => .int (i * j)) (fun i j (h : decide _ = true) => (of_decide_eq_true h : (-(2 ^ 64) < i ∧ i < 2 ^ 64) ∨ (-(2 ^ 64) < j ∧ j < 2 ^ 64))) fun _ _ _ => rfl
def fdivF : W → W → AH → Fo := opIc (fun _ j => decide (j ≠ 0 ∧ j.natAbs < 1073741824)) fun i j => .int (i.fdiv j)
theorem S_fdiv {K : PySem.W.Frag} : OpS K T (rI CDivN fun i j => .int (i.fdiv j)) fdivF := S_Ic (C := CDivN) (g := fun i j => .int (i.fdiv j)) (gv := fun i j => .int (i.fdiv j)) (fun i j (h : decide _ = true) => (of_decide_eq_true h : j ≠ 0 ∧ j.natAbs < 1073741824)) fun _ _ _ => rfl
def modF : W → W → AH → Fo := opIc (fun _ j => decide (j ≠ 0)) fun i j => .int (i.fmod j)
theorem S_mod {K : PySem.W.Frag} : OpS K T (rI (fun _ j => j ≠ 0) fun i j => .int (i.fmod j)) modF := S_Ic (C := fun _ j => j ≠ 0) (g := fun i j => .int (i.fmod j)) (gv := fun i j => .int (i.fmod j)) (fun i j (h : decide _ = true) => (of_decide_eq_true h : j ≠ 0)) fun _ _ _ => rfl
def powF : W → W → AH → Fo := opIc (fun i j => decide (0 ≤ j ∧ j ≤ 1000000 ∧ i.natAbs < 2 ^ 64)) fun i j => .int (i ^ j.toNat)
theorem S_pow {K : PySem.W.Frag} : OpS K T (rI CPow fun i j => .int (i ^ j.toNat)) powF := S_Ic (C := CPow) (g := fun i j => .int (i ^ j.toNat)) (gv := fun i j => .int (i ^ j.toNat)) (fun i j (h : decide _ = true) => (of_decide_eq_true h : 0 ≤ j ∧ j ≤ 1000000 ∧ i.natAbs < 2 ^ 64)) fun _ _ _ => rfl
def leF : W → W → AH → Fo := opI fun i j => .bl (decide (i ≤ j))
theorem S_le {K : PySem.W.Frag} : OpS K T (rI0 fun i j => .bl (decide (i ≤ j))) leF := S_I (g := fun i j => .bl (decide (i ≤ j))) (gv := fun i j => .bl (decide (i ≤ j))) fun _ _ _ => rfl
def gtF : W → W → AH → Fo := opI fun i j => .bl (decide (j < i))
theorem S_gt {K : PySem.W.Frag} : OpS K T (rI0 fun i j => .bl (decide (j < i))) gtF := S_I (g := fun i j => .bl (decide (j < i))) (gv := fun i j => .bl (decide (j < i))) fun _ _ _ => rfl
def geF : W → W → AH → Fo := opI fun i j => .bl (decide (j ≤ i))
theorem S_ge {K : PySem.W.Frag} : OpS K T (rI0 fun i j => .bl (decide (j ≤ i))) geF := S_I (g := fun i j => .bl (decide (j ≤ i))) (gv := fun i j => .bl (decide (j ≤ i))) fun _ _ _ => rfl
theorem bl_le : BlF leF := bl_I
theorem bl_gt : BlF gtF := bl_I
theorem bl_ge : BlF geF := bl_I
def negF : W → AH → Fo
  | .int i, h => ret (.int (-i)) h
  | _, _ => none
theorem s_neg (ha : PE X a (tE X.K T Wx da)) : PE X (.UnaryOp .USub a pos) (tE X.K T Wx (dUn negF da)) := pe_to (pe_un un_neg ha) fun s H Q q => tE_un (r := rU fun i => .int (-i)) (fun ω H h h' x z u Q r rx e k => by
  unfold negF at e
  split at e
  · obtain ⟨rfl, rfl⟩ := Prod.mk.inj (Option.some.inj e)
    exact ⟨_, rx, k.pure r rfl⟩
  · cases e) q
/-! ### and, or, not, if -/
theorem s_and {rest : List Expr} (ha : PE X a (tE X.K T Wx da)) (hb : PE X (.BoolOp .And (b :: rest) pos) (tE X.K T Wx db)) : PE X (.BoolOp .And (a :: b :: rest) pos) (tE X.K T Wx (dAnd da db)) := pe_to (pe_andT ha hb) fun _ _ _ q => tE_and q
theorem s_or {rest : List Expr} (ha : PE X a (tE X.K T Wx da)) (hb : PE X (.BoolOp .Or (b :: rest) pos) (tE X.K T Wx db)) : PE X (.BoolOp .Or (a :: b :: rest) pos) (tE X.K T Wx (dOr da db)) := pe_to (pe_orT ha hb) fun _ _ _ q => tE_or q
theorem s_not (ha : PE X a (tE X.K T Wx da)) : PE X (.UnaryOp .Not a pos) (tE X.K T Wx (dNot da)) := pe_to (pe_notT ha) fun _ _ _ q => tE_not q
theorem w_and {rest : List Expr} (ha : PT X a (tT X.K T Wx (dT da))) (hb : PW X (.BoolOp .And (b :: rest) pos) (tT X.K T Wx (dT db))) : PW X (.BoolOp .And (a :: b :: rest) pos) (tT X.K T Wx (dT (dAnd da db))) := pw_to (pw_and ha hb) fun _ _ _ q => tT_and q
theorem w_or {rest : List Expr} (ha : PT X a (tT X.K T Wx (dT da))) (hb : PW X (.BoolOp .Or (b :: rest) pos) (tT X.K T Wx (dT db))) : PW X (.BoolOp .Or (a :: b :: rest) pos) (tT X.K T Wx (dT (dOr da db))) := pw_to (pw_or ha hb) fun _ _ _ q => tT_or q
theorem t_not (ha : PT X a (tT X.K T Wx (dT da))) : PT X (.UnaryOp .Not a pos) (tT X.K T Wx (dT (dNot da))) := pt_to (pt_not ha) fun _ _ _ q => tT_not q
theorem s_if (hc : PT X c (tT X.K T Wx (dT dc))) (ha : PE X a (tE X.K T Wx da)) (hb : PE X b (tE X.K T Wx db)) : PE X (.IfExp c a b pos) (tE X.K T Wx (dIf dc da db)) := pe_to (pe_ifExp hc ha hb) fun _ _ _ q => tE_if q
/-! ### arguments -/
theorem a_nil : PA X [] (tA X.K T Wx dNil) := pa_to pa_nil fun _ _ _ q => tA_nil q
theorem a_cons {es : List Expr} {des : Ev → AH → R (List W)} (hs : NoStar e) (he : PE X e (tE X.K T Wx d)) (h : PA X es (tA X.K T Wx des)) : PA X (e :: es) (tA X.K T Wx (dCons d des)) := pa_to (pa_cons he h (hs es X.env)) fun _ _ _ q => tA_cons q
theorem k_nil : PK X [] (tA X.K T Wx dNil) := ⟨fun pos pins s σ H Q I q => pk_nil.run pos pins s σ H Q I (tA_nil q)⟩
theorem k_cons {nm : Option Str} {kp : Pos} {kws : List Keyword} {des : Ev → AH → R (List W)} (he : PE X e (tE X.K T Wx d)) (h : PK X kws (tA X.K T Wx des)) : PK X (⟨nm, e, kp⟩ :: kws) (tA X.K T Wx (dCons d des)) := ⟨fun pos pins s σ H Q I q => (pk_cons he h).run pos pins s σ H Q I (tA_cons q)⟩
/-! ### displays, subscripts, slices, attributes -/
theorem s_tup {es : List Expr} {x1 : Nat} {des : Ev → AH → R (List W)} (h : PA X es (tA X.K T Wx des)) : PE X (.Tuple es x1 pos) (tE X.K T Wx (dTup des)) := pe_to (pe_tup h) fun _ _ _ q => tE_tup q
theorem s_lst (m : Bool) {es : List Expr} {des : Ev → AH → R (List W)} (h : PA X es (tA X.K T Wx des)) : PE X (.List es pos) (tE X.K T Wx (dLst m des)) := pe_to (pe_lst h) fun _ _ _ q => tE_lst q
theorem s_ix (hr : IxR X (rIx X.K)) (ha : PE X a (tE X.K T Wx da)) (hb : PE X b (tE X.K T Wx db)) (hs : PlainIx b) : PE X (.Subscript a b pos) (tE X.K T Wx (dOp ixF da db)) := pe_to (pe_ix hr ha hb hs) fun _ _ _ q => tE_op S_ix q
theorem s_sl (m : Bool) {lo hi : Option Expr} {dl dh : Ev → AH → R (Option Int)} (ha : PE X a (tE X.K T Wx da)) (hl : PO X lo (tO X.K T Wx dl)) (hh : PO X hi (tO X.K T Wx dh)) : PE X (.Subscript a (.Slice lo hi none p2) pos) (tE X.K T Wx (dSl m da dl dh)) := pe_to (pe_slice sl_all ha hl hh) fun _ _ _ q => tE_sl q
theorem s_rev (m : Bool) {k : Nat} {p1 p3 : Pos} (ha : PE X a (tE X.K T Wx da)) : PE X (.Subscript a (.Slice none none (some (.UnaryOp .USub (.Constant (.int 1) k p1) p2)) p3) pos) (tE X.K T Wx (dUn (revF m) da)) := pe_to (pe_revL ha) fun _ _ _ q => tE_rev q
theorem s_fld {f : Nat} {cs : List Nat} {y : Str} (hy : T.nm[f]? = some y) (hc : AtOk X.K T cs y) (ha : PE X a (tE X.K T Wx da)) (hb : attributeBase a y X.env (eval a X.env) = eval a X.env) : PE X (.Attribute a y pos) (tE X.K T Wx (dUn (fldF f cs) da)) := pe_to (pe_fld ha hb) fun _ _ _ q => tE_fld hy hc q
/-! ### comprehension -/
theorem s_lc {m : Bool} {elt tg iter : Expr} {ifs : List Expr} {scope : Scope} {own : List (Str × Nat)} {src : IDen} {t : Tg} {dc : Option Den} (hcm : X.calm = true) (hN : X.N.Nodup) (hi : PI X tg iter (tI X.K T Wx src)) (ok : BlkOk X.N X.env.scope scope own) (hj : ∀ j ∈ t.js, j ∈ own.map (·.2))
    (hg : ∀ (s : Shared) (H : Hp) (C : Addr) (cl : List (Str × Addr)) (fp : List Addr), PG (X.blk s H scope (compEnvC scope cl C X.env) fp) tg (t.g X.K))
    (ht : ∀ (s : Shared) (H : Hp) (C : Addr) (cl : List (Str × Addr)) (fp : List Addr), PTs (X.blk s H scope (compEnvC scope cl C X.env) fp) ifs (tCond X.K T dc))
    (he : ∀ (s : Shared) (H : Hp) (C : Addr) (cl : List (Str × Addr)) (fp : List Addr), PE (X.blk s H scope (compEnvC scope cl C X.env) fp) elt (tE X.K T WxF d)) (hf : ∀ x, foldedSetIterable iter X.env x = pure x) :
    PE X (.ListComp elt [⟨tg, iter, ifs, 0⟩] scope pos) (tE X.K T Wx (dLc m src t (own.map (·.2)) dc d)) := pe_to (pe_lc hcm hN hi ok hg ht he hf) fun _ _ _ q => tE_lc hj q
end
end Dn
set_option Elab.async false
set_option linter.all false
set_option maxRecDepth 100000
set_option maxHeartbeats 800000
/-! Statements, defs. -/
namespace Dn
open PySem L2 Evl PySem.Spec PyProof.Rows
section
variable {X : Cx} {T : Tb} {Wx : WX} {a b c e tg it : Expr} {da db dc d : Den} {pos p p2 : Pos} {st : Stmt} {body orelse rest : List Stmt} {ds dr do' : SDen} {g : TDen}
/-- a list of statements, none empty -/
theorem q_nil : PSs X [] (tS X.K T Wx dNext) := pss_to pss_nil fun _ _ _ q => tS_next q
theorem q_one (h : PS X st (tS X.K T Wx ds)) : PSs X [st] (tS X.K T Wx ds) := pss_one h
theorem q_cons (h : PS X st (tS X.K T Wx ds)) (r : PSs X rest (tS X.K T Wx dr)) : PSs X (st :: rest) (tS X.K T Wx (dSeq ds dr)) := pss_to (pss_cons h r) fun _ _ _ q => tS_seq q
theorem s_pass : PS X (.Pass pos) (tS X.K T Wx dNext) := ps_to ps_pass fun _ _ _ q => tS_next q
theorem s_brk : PS X (.Break pos) (tS X.K T Wx dBrk) := ps_to ps_break fun _ _ _ q => tS_brk q
theorem s_cnt : PS X (.Continue pos) (tS X.K T Wx dCnt) := ps_to ps_continue fun _ _ _ q => tS_cnt q
theorem s_set {i : Nat} {x : Str} {pos' : Pos} (hN : X.N.Nodup) (hi : X.N[i]? = some x) (hx : Loc X.env.scope x) (he : PE X e (tE X.K T Wx d)) (hs : swapsWith e (some (.Name x pos')) pos.line X.env = pure false)
    (hf : X.fn x = true ∨ X.env.scope.names.lookup x = some .local) : PS X (.Assign [.Name x pos'] e pos) (tS X.K T Wx (dSet i d)) := ps_to (ps_set hN hi hx he hs hf) fun _ _ _ q => tS_set q
theorem s_drop (he : PE X e (tE X.K T Wx d)) (hs : swapsWith e none pos.line X.env = pure false) : PS X (.Expr e pos) (tS X.K T Wx (dDrop d)) := ps_to (ps_expr he hs) fun _ _ _ q => tS_drop q
theorem s_ret (he : PE X e (tE X.K T Wx d)) : PS X (.Return (some e) pos) (tS X.K T Wx (dRet d)) := ps_to (ps_ret he) fun _ _ _ q => tS_ret q
theorem s_retN : PS X (.Return none pos) (tS X.K T Wx dRetN) := ps_to ps_retN fun _ _ _ q => tS_retN q
theorem s_ifS (hc : PT X c (tT X.K T Wx (dT dc))) (ha : PSs X body (tS X.K T Wx ds)) (hb : PSs X orelse (tS X.K T Wx dr)) : PS X (.If c body orelse pos) (tS X.K T Wx (dIfS dc ds dr)) := ps_to (ps_if hc ha hb) fun _ _ _ q => tS_if q
theorem s_while (hp : PassesOwn (model X.prog X.w) X.A X.env X.xe) (hc : PT X c (tT X.K T Wx (dT dc))) (hb : PSs X body (tS X.K T Wx ds)) : PS X (.While c body [] pos) (tS X.K T Wx (dWhile dc ds)) := ps_to (ps_while hp hc hb) fun _ _ _ q => tS_while q
theorem s_for {src : IDen} (hp : PassesOwn (model X.prog X.w) X.A X.env X.xe) (hc : X.calm = true) (hi : PI X tg it (tI X.K T Wx src)) (hg : PG X tg (tG X.K T Wx g)) (hb : PSs X body (tS X.K T Wx ds)) (hf : ∀ x, foldedSetIterable it X.env x = pure x) :
    PS X (.For tg it body [] pos) (tS X.K T Wx (dFor src g ds)) := ps_to (ps_for hp hc hi hg hb hf) fun _ _ _ q => tS_for q
theorem s_setA {f : Nat} {cs : List Nat} {y : Str} {pos' : Pos} (hy : T.nm[f]? = some y) (hc : AtOk X.K T cs y) (ha : PE X a (tE X.K T Wx da)) (hv : PE X e (tE X.K T Wx d)) (hs : swapsWith e (some (.Attribute a y pos')) pos.line X.env = pure false) :
    PS X (.Assign [.Attribute a y pos'] e pos) (tS X.K T Wx (dSetA f cs da d)) := ps_to (ps_fld ha hv hs) fun _ _ _ q => tS_setA hy hc q
theorem s_asgG (he : PE X e (tE X.K T Wx d)) (hg : PG X tg (tG X.K T Wx g)) (hs : swapsWithSole [tg] e pos.line X.env = pure false) (hw : swappedStores [tg] e X.env = pure none) (h1 : (assignEach [tg] X.env).map (·.2) = [assign tg X.env]) :
    PS X (.Assign [tg] e pos) (tS X.K T Wx (dAsgG d g)) := ps_to (ps_asg he hg hs hw h1) fun _ _ _ q => tS_asg q
theorem s_setLc {m : Bool} {i : Nat} {y : Str} {py spos : Pos} {elt iter : Expr} {ifs : List Expr} {scope : Scope} {own : List (Str × Nat)} {src : IDen} {t : Tg} {dc : Option Den} (hcm : X.calm = true) (hN : X.N.Nodup) (hy : X.N[i]? = some y) (hyl : X.env.scope.names.lookup y = some .local)
    (hsw : swapsWith (.ListComp elt [⟨tg, iter, ifs, 0⟩] scope pos) (some (.Name y py)) spos.line X.env = pure true) (hi : PI X tg iter (tI X.K T Wx src)) (ok : BlkOk X.N X.env.scope scope own) (hj : ∀ j ∈ t.js, j ∈ own.map (·.2))
    (hg : ∀ (s : Shared) (H : Hp) (C : Addr) (cl : List (Str × Addr)) (fp : List Addr), PG (X.blk s H scope (compEnvC scope cl C X.env) fp) tg (t.g X.K))
    (ht : ∀ (s : Shared) (H : Hp) (C : Addr) (cl : List (Str × Addr)) (fp : List Addr), PTs (X.blk s H scope (compEnvC scope cl C X.env) fp) ifs (tCond X.K T dc))
    (he : ∀ (s : Shared) (H : Hp) (C : Addr) (cl : List (Str × Addr)) (fp : List Addr), PE (X.blk s H scope (compEnvC scope cl C X.env) fp) elt (tE X.K T WxF d)) (hf : ∀ x, foldedSetIterable iter X.env x = pure x) :
    PS X (.Assign [.Name y py] (.ListComp elt [⟨tg, iter, ifs, 0⟩] scope pos) spos) (tS X.K T Wx (dSet i (dLc m src t (own.map (·.2)) dc d))) :=
  ps_to (ps_setLc hcm hN hy hyl hsw hi ok hg ht he hf) fun D s H q => by
    have h := tS_set q
    exact tE_lc (Q := fun x H1 => gName i x s H1 D.nx) hj h
theorem s_par {i j : Nat} {x y : Str} {px py pt : Pos} {kt k2 : Nat} {pt2 : Pos} {des : Ev → AH → R (List W)} (hc : X.calm = true) (hN : X.N.Nodup) (hi : X.N[i]? = some x) (hj : X.N[j]? = some y) (hij : i ≠ j)
    (hx : X.env.scope.names.lookup x = some .local) (hy : X.env.scope.names.lookup y = some .local) (ha : PA X [a, b] (tA X.K T Wx des))
    (hw : swappedStores [.Tuple [.Name x px, .Name y py] kt pt] (.Tuple [a, b] k2 pt2) X.env = pure (some [x, y]))
    (hs : swapsWithSole [.Tuple [.Name x px, .Name y py] kt pt] (.Tuple [a, b] k2 pt2) pos.line X.env = pure false) :
    PS X (.Assign [.Tuple [.Name x px, .Name y py] kt pt] (.Tuple [a, b] k2 pt2) pos) (tS X.K T Wx (dPar [i, j] des)) := ps_to (ps_par hc hN hi hj hij hx hy ha hw hs) fun _ _ _ q => tS_par2 q
theorem s_par3 {i j k : Nat} {x y z : Str} {px py pz pt : Pos} {kt k2 : Nat} {pt2 : Pos} {des : Ev → AH → R (List W)} (hc : X.calm = true) (hN : X.N.Nodup) (hi : X.N[i]? = some x) (hj : X.N[j]? = some y) (hk : X.N[k]? = some z) (hij : i ≠ j) (hik : i ≠ k) (hjk : j ≠ k)
    (hx : X.env.scope.names.lookup x = some .local) (hy : X.env.scope.names.lookup y = some .local) (hz : X.env.scope.names.lookup z = some .local) (ha : PA X [a, b, c] (tA X.K T Wx des))
    (hw : swappedStores [.Tuple [.Name x px, .Name y py, .Name z pz] kt pt] (.Tuple [a, b, c] k2 pt2) X.env = pure (some [x, y, z]))
    (hs : swapsWithSole [.Tuple [.Name x px, .Name y py, .Name z pz] kt pt] (.Tuple [a, b, c] k2 pt2) pos.line X.env = pure false) :
    PS X (.Assign [.Tuple [.Name x px, .Name y py, .Name z pz] kt pt] (.Tuple [a, b, c] k2 pt2) pos) (tS X.K T Wx (dPar [i, j, k] des)) := ps_to (ps_par3 hc hN hi hj hk hij hik hjk hx hy hz ha hw hs) fun _ _ _ q => tS_par3 q
/-! targets -/
theorem g_name {i : Nat} {x : Str} (hN : X.N.Nodup) (hi : X.N[i]? = some x) (hx : Loc X.env.scope x) (hf : X.fn x = true ∨ X.env.scope.names.lookup x = some .local) : PG X (.Name x pos) (tG X.K T Wx (gN i)) := pg_to (pg_name hN hi hx hf) fun _ _ _ _ q => tG_name q
theorem g_sub (ha : PE X a (tE X.K T Wx da)) (hb : PE X b (tE X.K T Wx db)) (hs : PSet X rSetL)
    (h : ∀ v, assign (.Subscript a b pos) X.env v = (do
      let ov ← holding [v] (eval a X.env)
      let iv ← holding [v, ov] (eval b X.env)
      standAt pos
      holding [v, ov, iv] (setItem ov iv v)
      release [v, ov, iv] [])) : PG X (.Subscript a b pos) (tG X.K T Wx (gSb da db)) := pg_to (pg_sub ha hb hs h) fun _ _ _ _ q => tG_sub q
/-! what is walked -/
theorem i_seq (ha : PE X a (tE X.K T Wx da)) : PI X tg a (tI X.K T Wx (dSq da)) := pi_to (pi_lt ha) fun _ _ _ q => tI_seq q
theorem i_rng1 (hg : Gl X "range") (hm : X.mg "range" = none) (hn : NoStar a) (ha : PE X a (tE X.K T Wx da)) : PI X tg (.Call (.Name "range" p) [a] [] pos) (tI X.K T Wx (dRng (dCons da dNil))) :=
  pi_to (pi_range1 hg hm (a_cons hn ha a_nil) (hn [] X.env)) fun _ _ _ q => tI_rng1 (fun _ _ _ _ e => dCons1_len e) q
theorem i_rng2 (hg : Gl X "range") (hm : X.mg "range" = none) (hn : NoStar a) (hn2 : NoStar b) (ha : PE X a (tE X.K T Wx da)) (hb : PE X b (tE X.K T Wx db)) : PI X tg (.Call (.Name "range" p) [a, b] [] pos) (tI X.K T Wx (dRng (dCons da (dCons db dNil)))) :=
  pi_to (pi_range2 hg hm (a_cons hn ha (a_cons hn2 hb a_nil)) (by rw [hn [b] X.env, hn2 [] X.env]; rfl) (hn2 [] X.env)) fun _ _ _ q => tI_rng2 (fun _ _ _ _ e => dCons2_len e) q
/-! calls of built-in functions and types -/
theorem s_callB {x : Str} {ids : String} {r : List V → Hp → VK → Prop} {f : List W → AH → Fo} {es : List Expr} {des : Ev → AH → R (List W)} (hc : CallR X (.builtin ids) r) (hs : ClS X.K T r f) (hg : Gl X x) (hm : X.mg x = none) (hv : bootBuiltins x = some (.builtin ids)) (hn : NoStar e) (hes : ∀ e ∈ es, NoStar e) (ha : PA X (e :: es) (tA X.K T Wx des))
    (hn' : x ≠ "__name__") (hdb : (x == ("__debug__" : Str)) = false) : PE X (.Call (.Name x p) (e :: es) [] pos) (tE X.K T Wx (dCl f des)) :=
  pe_to (pe_callB hc hg hm hv ha hn' hdb (hn es X.env) (any_star pos X.env es hes)) fun _ _ _ q => tE_cl hs q
theorem s_callT {x : Str} {ids : String} {r : List V → Hp → VK → Prop} {f : List W → AH → Fo} {es : List Expr} {des : Ev → AH → R (List W)} (hc : CallR X (.type ids) r) (hs : ClS X.K T r f) (hg : Gl X x) (hm : X.mg x = none) (hv : bootBuiltins x = some (.type ids)) (hn : NoStar e) (hes : ∀ e ∈ es, NoStar e) (ha : PA X (e :: es) (tA X.K T Wx des))
    (hn' : x ≠ "__name__") (hdb : (x == ("__debug__" : Str)) = false) : PE X (.Call (.Name x p) (e :: es) [] pos) (tE X.K T Wx (dCl f des)) :=
  pe_to (pe_callTy hc hg hm hv ha hn' hdb (hn es X.env) (any_star pos X.env es hes)) fun _ _ _ q => tE_cl hs q
end

/-! ### a def -/
def fnW (n : Nat) (b : SDen) : List W → AH → R W := fun ws h => match b (ws.map some ++ List.replicate (n - ws.length) none) h with
  | .nx _ h' => .ok .non h'
  | .rt x h' => .ok x h'
  | .ex c fs _ h' => .ex c fs h'
  | _ => .bad
section
variable {P : Program} {w : World} {K : PySem.W.Frag} {T : Tb} {mg : Str → Option Value} {base : Heap}
theorem start_rep {ω : Wo} {N : Nat} {ws : List W} {vs : List V} {Ns : List Str} (r : RepL K T ω ws vs) (hN : Ns.length = N) : ERel K T ω (ws.map some ++ List.replicate (N - ws.length) none) (L2.start Ns vs) := by
  unfold L2.start
  refine ⟨by rw [List.length_append, List.length_append, List.length_map, List.length_map, List.length_replicate, List.length_replicate, r.length, hN], fun i x hx => ?_⟩
  by_cases hi : i < ws.length
  · rw [List.getElem?_append_left (by simpa using hi), List.getElem?_map] at hx
    cases q : ws[i]? with
    | none => rw [q] at hx; cases hx
    | some y =>
      rw [q] at hx
      have : y = x := by simpa using hx
      subst this
      obtain ⟨v, hv, rv⟩ := r.get q
      refine ⟨v, ?_, rv⟩
      rw [List.getElem?_append_left (by rw [List.length_map, r.length]; exact hi), List.getElem?_map, hv]; rfl
  · rw [List.getElem?_append_right (by simpa using hi), List.getElem?_replicate] at hx
    split at hx <;> cases hx
theorem fn_D {x qual : Str} {st : Stmt} {f : Addr} {fd : FuncData} {N ps : List Str} {k n : Nat} {b : SDen} (F : L2.Fun K x qual st f fd) (S : FnScope N ps (defScope st)) (hn : ps.length = n)
    (hbody : ∀ (cdv : Value) (A : Around) (outer : List Env) (s : Shared) (H : Hp) (E : XK), Room k (A.deeper (envOfC qual (defScope st) s.heap.objs.size f cdv)) →
      Takes (cxOf (L2.CX P w) P w K mg base N qual (defScope st) f cdv A outer s H E) (fun cls d _ H => E cls d H) →
      PSs (cxOf (L2.CX P w) P w K mg base N qual (defScope st) f cdv A outer s H E) (defBody st) (tS K T (fun cls d _ H => E cls d H) b)) : FnOk P w K mg base (L2.CX P w) (k + 1) f fd ps (spD K T n (fnW N.length b)) := by
  refine L2.Fun.okX F S (fun vs H Q E h => by rw [hn]; exact spD_len vs H Q E h) (fun cdv A outer s H vs Q E hr h => ?_)
  obtain ⟨ω, ws, h0, rv, r, hl, p⟩ := h
  refine ⟨_, hbody cdv A outer s H E hr (takes_of rfl rfl rfl rfl), ω, _, h0, start_rep rv rfl, r, ?_⟩
  unfold fnW at p
  split at p
  · rename_i x1 h1 hq
    cases q : b (ws.map some ++ List.replicate (N.length - ws.length) none) h0 with
    | nx σ' h' =>
      rw [q] at hq; cases hq
      exact fun s' H' ω' l r' e' => p .non H' ω' l r' rfl
    | rt x h' =>
      rw [q] at hq; cases hq
      exact fun v H' ω' l r' rv' => p v H' ω' l r' rv'
    | ex c fs σ' h' => rw [q] at hq; cases hq
    | bk σ' h' => rw [q] at hq; cases hq
    | ct σ' h' => rw [q] at hq; cases hq
    | bad => rw [q] at hq; cases hq
  · rename_i c fs h1 hq
    cases q : b (ws.map some ++ List.replicate (N.length - ws.length) none) h0 with
    | ex c' fs' σ' h' =>
      rw [q] at hq; cases hq
      exact fun s' ω1 l1 e1 H2 ω2 d gs l2 r2 hd hf => p H2 ω2 d gs (l1.trans l2) r2 hd hf
    | nx σ' h' => rw [q] at hq; cases hq
    | rt x h' => rw [q] at hq; cases hq
    | bk σ' h' => rw [q] at hq; cases hq
    | ct σ' h' => rw [q] at hq; cases hq
    | bad => rw [q] at hq; cases hq
  · exact p.elim
end
end Dn
set_option Elab.async false
set_option linter.all false
set_option maxRecDepth 100000
set_option maxHeartbeats 800000
/-! List methods, isinstance, how arguments come; small helpers for printed proofs. -/
namespace Dn
open PySem L2 Evl PySem.Spec PyProof.Rows
theorem ns_nil : ∀ e ∈ ([] : List Expr), NoStar e := fun _ h => nomatch h
theorem ns_cons {e : Expr} {es : List Expr} (h : NoStar e) (t : ∀ x ∈ es, NoStar x) : ∀ x ∈ e :: es, NoStar x := fun x hx => (List.mem_cons.mp hx).elim (fun z => z ▸ h) (t x)
section
variable {X : Cx} {T : Tb} {Wx : WX} {o e : Expr} {es : List Expr} {d dob : Den} {des : Ev → AH → R (List W)} {apos cpos p p3 : Pos}
theorem s_lm {name : Str} {nm : String} {id : String} {r : V → List V → Hp → VK → Prop} {f : W → List W → AH → Fo} (slot : Slot "list" nm id) (hnm : (nm : Str) = name) (hty : typeOf (.builtin id) = pure (.type "method_descriptor")) (hm : MtR X id r) (hs : MtS X.K T "list" r f) (ho : PE X o (tE X.K T Wx dob)) (ha : PA X (e :: es) (tA X.K T Wx des))
    (hbase : attributeBase o name X.env (eval o X.env) = eval o X.env) (hfew : ((backTo cpos (starEach (e :: es) X.env)).all (fun x => !x.1) && (backToKw cpos (keywordEach [] X.env)).all (fun x => x.1.isSome)
      && decide ((e :: es).length + ([] : List Keyword).length + (if ([] : List Keyword).isEmpty then 0 else 1) < 30)) = true) (hline : (apos.endLine == cpos.line) = true) (hn : NoStar e) (hes : ∀ x ∈ es, NoStar x) :
    PE X (.Call (.Attribute o name apos) (e :: es) [] cpos) (tE X.K T Wx (dMtL f dob des)) := by
  subst hnm
  exact pe_to (pe_bm PySem.F.plainAttrs_list slot hty hm ho ha hbase hfew hline (hn es X.env) (any_star cpos X.env es hes)) fun _ _ _ q => tE_mtL hs q
theorem s_lm0 {name : Str} {nm : String} {id : String} {r : V → List V → Hp → VK → Prop} {f : W → List W → AH → Fo} (slot : Slot "list" nm id) (hnm : (nm : Str) = name) (hty : typeOf (.builtin id) = pure (.type "method_descriptor")) (hm : MtR X id r) (hs : MtS X.K T "list" r f) (ho : PE X o (tE X.K T Wx dob))
    (hbase : attributeBase o name X.env (eval o X.env) = eval o X.env) (hline : (apos.endLine == cpos.line) = true) :
    PE X (.Call (.Attribute o name apos) [] [] cpos) (tE X.K T Wx (dMtL f dob dNil)) := by
  subst hnm
  exact pe_to (pe_bm0 PySem.F.plainAttrs_list slot hty hm ho hbase hline) fun _ _ _ q => tE_mtL0 hs q
theorem s_isi {c : String} {x : Str} {p1 p2 : Pos} (hg : Gl X "isinstance") (hm : X.mg "isinstance" = none) (hg2 : Gl X x) (hm2 : X.mg x = none) (hv : bootBuiltins x = some (.type c)) (hn' : x ≠ "__name__") (hdb : (x == ("__debug__" : Str)) = false) (hn : NoStar e) (he : PE X e (tE X.K T Wx d)) :
    PE X (.Call (.Name "isinstance" p1) [e, .Name x p2] [] cpos) (tE X.K T Wx (dUn (isiF c) d)) := by
  refine pe_to (pe_callB call_isi hg hm PyProof.Rows.Boot.«isinstance» (pa_cons he (pa_cons (pe_bltn (v := .ty c) hg2 hm2 hv rfl hn' hdb) pa_nil) (hn _ X.env)) (by decide) (by decide) (hn _ X.env)) fun s H Q q => ?_
  show tE _ _ _ _ _ _ _
  exact tE_un (r := fun x H Q => rIsi X.K [x, .ty c] H Q) (fun ω H h h' x z u Q r rx e a => S_isi r rx e a) q
end
theorem shape_of {K : PySem.W.Frag} {x qual : Str} {st : Stmt} {f : Addr} {fd : FuncData} {ps : List Str} {n : Nat} {ks : List Str} {pm : List Nat} (F : L2.Fun K x qual st f fd)
    (h : ∀ (kV doc pmv : Value) (an : Option Addr) (cdv ct : Value) (us ws : List Value), us.length = n → ws.length = ks.length → bindArgs (PySem.W.fnOf x qual (defArgs st) (defBody st) (defScope st) .none kV doc pmv an cdv ct) ⟨us, ks.zip ws⟩ = pure (ps.zip (pick pm (us ++ ws ++ [])))) : Shape K fd ps n ks pm [] [] := by
  obtain ⟨oc, od, kV, doc, pmv, an, cdv, ct, osl, rfl, lk, hcd⟩ := F.ex
  exact ⟨fun s us ws _ h1 h2 => .of_eq (h kV doc pmv an cdv ct us ws h1 h2), .nil⟩
theorem u65 {k : Nat} {A : Around} (r : Room k A) : A.units + 65 < cLine := by have := r.un; omega
end Dn
set_option Elab.async false
set_option linter.all false
set_option maxRecDepth 100000
set_option maxHeartbeats 800000
/-! From a def's answer to the law. -/
namespace Dn
open PySem L2 Evl PySem.Spec PyProof.Rows
def spW (K : PySem.W.Frag) (n : Nat) : Sp := fun vs H Q _ => ∃ (a : Addr) (ns : List Int), vs = [.ref a] ∧ SqL K H a (ns.map V.int) ∧ ns.length ≤ n ∧ ∀ v H', v = .bl true → Q v H'
theorem ints_rep {K : PySem.W.Frag} {T : Tb} {ω : Wo} : ∀ ns : List Int, RepL K T ω (ns.map W.int) (ns.map V.int)
  | [] => rfl
  | n :: ns => ⟨_, _, rfl, rfl, ints_rep ns⟩
theorem sp_of {K : PySem.W.Frag} {T : Tb} {n : Nat} {fn : List W → AH → R W} (hz : n ≤ sizeLine) (hl : ∀ ns : List Int, ns.length ≤ n → ∃ h', fn [.lst (ns.map W.int)] [] = .ok (.bl true) h') (vs : List V) (H : Hp) (Q : VK) (E : XK) (h : spW K n vs H Q E) : spD K T 1 fn vs H Q E := by
  obtain ⟨a, ns, rfl, hS, hn, k⟩ := h
  obtain ⟨h', e⟩ := hl ns hn
  refine ⟨⟨[], H, fun _ => none⟩, [.lst (ns.map W.int)], [], ⟨_, [], rfl, ⟨a, _, rfl, hS, by rw [List.length_map]; exact Nat.le_trans hn hz, ints_rep ns⟩, rfl⟩, ⟨Ex.refl _, rfl, List.nodup_nil, (fun _ z => nomatch z), (fun _ _ z => nomatch z), (fun _ _ z => nomatch z), fun i o a z _ => by simp at z⟩, rfl, ?_⟩
  rw [e]
  exact fun v H' ω' _ _ rv => k v H' rv
theorem walkW {l : PySem.W.OpenLaw} {n k : Nat} {q : Program} {loose : List Str} {XP : (Str → Option Value) → Heap → Prop} {YP : World → Heap → Prop} {d : DefRec} {K : Params → PySem.W.Frag} {x : Str} {fn : List W → AH → R W}
    (hn : l.most = some n) (hn2 : n ≤ sizeLine) (hdf : d.params.defaults = []) (hr : Room k callerA) (hY : ∀ (w : World) (h : Heap), YP w h → (K w.params).In h)
    (F : ∀ (w : World) (mg : Str → Option Value) (fa : Addr) (h : Heap), (K w.params).In h → h.Ns mainGlobals mg → mg d.name = some (.ref fa) →
      ∃ (fd : FuncData) (T : Tb), (∀ (s : Shared) (u : Value), BindsTo s fd ⟨[u], []⟩ [(x, u)]) ∧ ∀ base : Heap, (K w.params).In base → base.Ns mainGlobals mg → FnOk l.prog w (K w.params) mg base (L2.CX l.prog w) k fa fd [x] (spD (K w.params) T 1 fn))
    (law : ∀ ns : List Int, ns.length ≤ n → ∃ h', fn [.lst (ns.map W.int)] [] = .ok (.bl true) h') : PySem.W.WalkO q loose XP YP l.row.toRowW d [] (fun f vs => PySem.call f vs) :=
  L2.walk_of (CX := fun w => L2.CX l.prog w) (sp := fun w => spW (K w.params) n) hn hn2 hdf hr hY (fun w mg fa h a b c => by
    obtain ⟨fd, T, h1, h2⟩ := F w mg fa h a b c
    exact ⟨fd, h1, fun base x y => (h2 base x y).imp (sp_of hn2 law)⟩) (fun w H a ns hl _ hS => ⟨a, ns, rfl, hS, hl, fun _ _ h => h⟩) fun w H s e s' z => by
    obtain ⟨_, _, _, _, _, _, _, _, _, _, _, _, z⟩ := z
    exact z
/-- what the tables say of an exception class under ValueError -/
theorem oex_mk {K : PySem.W.Frag} {C N : Addr} {nm q : Str} {bs bm : List Value} {sn : List Str} {sub : List Value} {ab : Bool} {col : Option Bool} {dd : Option Addr} {k0 k1 k2 k3 k5 : Option Value} (h : K.lookup C = some (excClassObj nm q C N bs bm true sn sub ab col dd k0 k1 k2 k3 k5 "ValueError.__new__"))
    (h2 : PySem.HandSPX.refsVE bm = true) (sa : PySem.W.findIn K (.ref C) "__setattr__" = some (some (.builtin "object.__setattr__"))) (ex : PySem.W.subIn K (.ref C) (.type "BaseException") = some true) (ty : PySem.W.typeIn K (.ref C) = some (.type "type")) (kC : PySem.W.keepIn K (.ref C) = true) : OexC K C :=
  ⟨⟨_, _, _, _, _, _, _, _, _, _, _, _, _, _, _, h, h2⟩, sa, ex, ty, kC⟩
theorem at_mk {K : PySem.W.Frag} {T : Tb} {c : Nat} {y : Str} (h : Cls K (T.ca c)) (n : NoAttr K (T.ca c) y) : AtOk K T [c] y := fun x hx => (List.mem_singleton.mp hx) ▸ ⟨h, n⟩
end Dn
set_option Elab.async false
set_option linter.all false
set_option maxRecDepth 100000
set_option maxHeartbeats 400000
/-! How the printed functions are reckoned, step by step. -/
namespace Dn
section
variable {σ σ' : Ev} {h h1 h2 h3 : AH} {a b c d : Den} {x y z : W} {f : W → W → AH → Fo}
theorem ev_var {i : Nat} (e : σ[i]? = some (some x)) : dVar i σ h = .ok x h := by unfold dVar; rw [e]
theorem ev_cst : dCst x σ h = .ok x h := rfl
theorem ev_op (ha : a σ h = .ok x h1) (hb : b σ h1 = .ok y h2) (hf : f x y h2 = some (z, h3)) : dOp f a b σ h = .ok z h3 := by
  unfold dOp; rw [ha]; simp only [R.andThen]; rw [hb]; simp only []; rw [hf]; rfl
theorem ev_op0 (ha : a σ h = .ok x h) (hb : b σ h = .ok y h) (hf : f x y h = some (z, h)) : dOp f a b σ h = .ok z h := ev_op ha hb hf
theorem ev_un {f : W → AH → Fo} (ha : a σ h = .ok x h1) (hf : f x h1 = some (z, h2)) : dUn f a σ h = .ok z h2 := by
  unfold dUn; rw [ha]; simp only [R.andThen]; rw [hf]; rfl
theorem ev_nil : dNil σ h = .ok [] h := rfl
theorem ev_cons {as : Ev → AH → R (List W)} {xs : List W} (ha : a σ h = .ok x h1) (hb : as σ h1 = .ok xs h2) : dCons a as σ h = .ok (x :: xs) h2 := by
  unfold dCons; rw [ha]; simp only [R.andThen]; rw [hb]
theorem ev_cl {f : List W → AH → Fo} {as : Ev → AH → R (List W)} {xs : List W} (ha : as σ h = .ok xs h1) (hf : f xs h1 = some (z, h2)) : dCl f as σ h = .ok z h2 := by
  unfold dCl; rw [ha]; simp only [R.andThen]; rw [hf]; rfl
theorem ev_cl1 {f : List W → AH → Fo} (ha : a σ h = .ok x h1) (hf : f [x] h1 = some (z, h2)) : dCl f (dCons a dNil) σ h = .ok z h2 := ev_cl (ev_cons ha ev_nil) hf
theorem ev_dT {k : Bool} (ha : a σ h = .ok x h1) (ht : truW h1 x = some k) : dT a σ h = .ok k h1 := by
  unfold dT; rw [ha]; simp only [R.andThen]; rw [ht]; rfl
theorem ev_and_t (ha : a σ h = .ok x h1) (ht : truW h1 x = some true) : dAnd a b σ h = b σ h1 := by
  unfold dAnd; rw [ha]; simp only [R.andThen]; rw [ht]
theorem ev_and_f (ha : a σ h = .ok x h1) (ht : truW h1 x = some false) : dAnd a b σ h = .ok x h1 := by
  unfold dAnd; rw [ha]; simp only [R.andThen]; rw [ht]
theorem ev_or_t (ha : a σ h = .ok x h1) (ht : truW h1 x = some true) : dOr a b σ h = .ok x h1 := by
  unfold dOr; rw [ha]; simp only [R.andThen]; rw [ht]
theorem ev_or_f (ha : a σ h = .ok x h1) (ht : truW h1 x = some false) : dOr a b σ h = b σ h1 := by
  unfold dOr; rw [ha]; simp only [R.andThen]; rw [ht]
theorem ev_not {k : Bool} (ha : a σ h = .ok x h1) (ht : truW h1 x = some k) : dNot a σ h = .ok (.bl (!k)) h1 := by
  unfold dNot; rw [ha]; simp only [R.andThen]; rw [ht]
theorem ev_if {k : Bool} (hc : dT c σ h = .ok k h1) : dIf c a b σ h = if k = true then a σ h1 else b σ h1 := by
  unfold dIf; rw [hc]; rfl
theorem ev_mt {f : W → List W → AH → Fo} {as : Ev → AH → R (List W)} {xs : List W} (ha : a σ h = .ok x h1) (hl : isLst h1 x = true) (hb : as σ h1 = .ok xs h2) (hf : f x xs h2 = some (z, h3)) : dMtL f a as σ h = .ok z h3 := by
  unfold dMtL; rw [ha]; simp only [R.andThen]; rw [if_pos hl, hb]; simp only []; rw [hf]; rfl
theorem ev_tup {as : Ev → AH → R (List W)} {xs : List W} (ha : as σ h = .ok xs h1) (hl : xs.length ≤ 1000) : dTup as σ h = .ok (.tup xs) h1 := by
  unfold dTup; rw [ha]; simp only [R.andThen]; rw [if_pos hl]
theorem ev_lstF {as : Ev → AH → R (List W)} {xs : List W} (ha : as σ h = .ok xs h1) (hl : xs.length ≤ 1000) : dLst false as σ h = .ok (.lst xs) h1 := by
  unfold dLst; rw [ha]; simp only [R.andThen]; rw [if_pos hl]; rfl
theorem ev_lstT {as : Ev → AH → R (List W)} {xs : List W} (ha : as σ h = .ok xs h1) (hl : xs.length ≤ 1000) : dLst true as σ h = .ok (.loc h1.length) (h1 ++ [.lst xs]) := by
  unfold dLst; rw [ha]; simp only [R.andThen]; rw [if_pos hl]; rfl
/-! statements -/
variable {p q : SDen}
theorem sv_seq (e : p σ h = .nx σ' h1) : dSeq p q σ h = q σ' h1 := by unfold dSeq; rw [e]
theorem sv_seq_rt (e : p σ h = .rt x h1) : dSeq p q σ h = .rt x h1 := by unfold dSeq; rw [e]
theorem sv_seq_ex {c : Nat} {fs : List (Nat × W)} (e : p σ h = .ex c fs σ' h1) : dSeq p q σ h = .ex c fs σ' h1 := by unfold dSeq; rw [e]
theorem sv_set {i : Nat} (e : d σ h = .ok x h1) : dSet i d σ h = .nx (σ.set i (some x)) h1 := by unfold dSet; rw [e]; rfl
theorem sv_drop (e : d σ h = .ok x h1) : dDrop d σ h = .nx σ h1 := by unfold dDrop; rw [e]; rfl
theorem sv_ret (e : d σ h = .ok x h1) : dRet d σ h = .rt x h1 := by unfold dRet; rw [e]; rfl
theorem sv_ret_ex {c : Nat} {fs : List (Nat × W)} (e : d σ h = .ex c fs h1) : dRet d σ h = .ex c fs σ h1 := by unfold dRet; rw [e]; rfl
theorem sv_if {k : Bool} (e : dT c σ h = .ok k h1) : dIfS c p q σ h = if k = true then p σ h1 else q σ h1 := by unfold dIfS; rw [e]; rfl
theorem sv_setI {o i : Den} {ov iv : W} {h4 : AH} (hd : d σ h = .ok x h1) (ho : o σ h1 = .ok ov h2) (hi : i σ h2 = .ok iv h3) (hs : setF ov iv x h3 = some h4) : dAsgG d (gSb o i) σ h = .nx σ h4 := by
  unfold dAsgG; rw [hd]; simp only [R.toS, gSb]; rw [ho]; simp only []; rw [hi]; simp only []; rw [hs]; rfl
theorem sv_par {is : List Nat} {as : Ev → AH → R (List W)} {xs : List W} (e : as σ h = .ok xs h1) (hl : xs.length = is.length) : dPar is as σ h = .nx ((is.zip xs).foldl (fun s p => s.set p.1 (some p.2)) σ) h1 := by
  unfold dPar; rw [e]; simp only [R.toS]; rw [if_pos hl]
/-! turns of a while -/
theorem wh_stop {f : Nat} (e : dT c σ h = .ok false h1) : whW c p (f + 1) σ h = .nx σ h1 := by
  unfold whW; rw [e]; rfl
theorem wh_go {f : Nat} (e : dT c σ h = .ok true h1) (b : p σ h1 = .nx σ' h2) : whW c p (f + 1) σ h = whW c p f σ' h2 := by
  conv => lhs; unfold whW
  rw [e]; simp only [R.toS, if_pos]; rw [b]
/-! calls -/
theorem ev_call {fn : List W → AH → R W} {n m : Nat} {pm : List Nat} {dw xs ys : List W} {as bs : Ev → AH → R (List W)} (ha : as σ h = .ok xs h1) (hb : bs σ h1 = .ok ys h2) (hl : xs.length = n ∧ ys.length = m) : dCall fn n m pm dw as bs σ h = fn (pick pm (xs ++ ys ++ dw)) h2 := by
  unfold dCall; rw [ha]; simp only [R.andThen]; rw [hb]; simp only []; rw [if_pos hl]
theorem ev_meth {fn : List W → AH → R W} {cs : List Nat} {mth n m : Nat} {pm : List Nat} {dw xs ys : List W} {as bs : Ev → AH → R (List W)} {o : Den} {i k : Nat} {fs : List (Nat × W)} (ho : o σ h = .ok (.loc i) h1) (hi : h1[i]? = some (.ins k fs)) (hc : cs.contains k = true ∧ fs.lookup mth = none)
    (ha : as σ h1 = .ok xs h2) (hb : bs σ h2 = .ok ys h3) (hl : xs.length = n ∧ ys.length = m) : dMeth fn cs mth n m pm dw o as bs σ h = fn (pick pm (.loc i :: xs ++ ys ++ dw)) h3 := by
  unfold dMeth; rw [ho]; simp only [R.andThen]; rw [hi]; simp only []; rw [if_pos hc, ha]; simp only []; rw [hb]; simp only []; rw [if_pos hl]
end
theorem fn_rt {n : Nat} {b : SDen} {ws : List W} {h h1 : AH} {x : W} (e : b (ws.map some ++ List.replicate (n - ws.length) none) h = .rt x h1) : fnW n b ws h = .ok x h1 := by unfold fnW; rw [e]
theorem fn_nx {n : Nat} {b : SDen} {ws : List W} {h h1 : AH} {σ : Ev} (e : b (ws.map some ++ List.replicate (n - ws.length) none) h = .nx σ h1) : fnW n b ws h = .ok .non h1 := by unfold fnW; rw [e]
theorem fn_ex {n : Nat} {b : SDen} {ws : List W} {h h1 : AH} {σ : Ev} {c : Nat} {fs : List (Nat × W)} (e : b (ws.map some ++ List.replicate (n - ws.length) none) h = .ex c fs σ h1) : fnW n b ws h = .ex c fs h1 := by unfold fnW; rw [e]
theorem ix_nat {n k : Nat} (h : k < n) : L2.ixN n (k : Int) = some k := by
  unfold L2.ixN
  rw [if_pos (by omega), if_pos (by omega)]
  rfl
theorem at_nat {α : Type} {xs : List α} {k : Nat} {x : α} (h : xs[k]? = some x) : L2.atI xs (k : Int) = some x := by
  unfold L2.atI
  rw [ix_nat (List.getElem?_eq_some_iff.mp h).1]
  exact h
theorem half_fdiv {a : Nat} (h : 0 < a) : ((a : Int) - 1).fdiv 2 = (((a - 1) / 2 : Nat) : Int) := by
  rw [Int.fdiv_eq_ediv_of_nonneg _ (by omega)]; omega
/-! the heap -/
theorem h_set {h : AH} {m n : Nat} {o : AO} : (h.set m o)[n]? = if m = n then (if m < h.length then some o else none) else h[n]? := by
  by_cases e : m = n
  · subst e
    rw [if_pos rfl]
    split
    · rename_i l; rw [List.getElem?_set_self l]
    · rename_i l; rw [List.getElem?_eq_none (by rw [List.length_set]; omega)]
  · rw [if_neg e, List.getElem?_set_ne e]
end Dn
set_option Elab.async false
set_option linter.all false
set_option maxRecDepth 100000
set_option maxHeartbeats 400000
/-! How loops and comprehensions are reckoned. -/
namespace Dn
/-- a loop that runs through -/
theorem for_thru {xs : List W} {g : TDen} {b : SDen} (P : Nat → Ev → AH → Prop) (step : ∀ i x σ h, xs[i]? = some x → P i σ h → ∃ σ0 h0 σ1 h1, g x σ h = .nx σ0 h0 ∧ b σ0 h0 = .nx σ1 h1 ∧ P (i + 1) σ1 h1) :
    ∀ (f i : Nat) (σ : Ev) (h : AH), i + f = xs.length → P i σ h → ∃ σ' h', forS (fun _ => some xs) g b f i σ h = .nx σ' h' ∧ P xs.length σ' h'
  | 0, i, σ, h, e, p => by
    refine ⟨σ, h, ?_, by have : i = xs.length := by omega
                         rw [← this]; exact p⟩
    unfold forS
    simp only []
    rw [if_pos (by omega)]
  | f + 1, i, σ, h, e, p => by
    have hx : xs[i]? = some xs[i] := List.getElem?_eq_getElem (by omega)
    obtain ⟨σ0, h0, σ1, h1, e1, e2, p1⟩ := step i _ σ h hx p
    obtain ⟨σ', h', e3, p3⟩ := for_thru P step f (i + 1) σ1 h1 (by omega) p1
    refine ⟨σ', h', ?_, p3⟩
    unfold forS
    simp only [hx]
    unfold turnW
    rw [e1]; simp only []; rw [e2]; exact e3
theorem sv_for {d : IDen} {g : TDen} {b : SDen} {σ : Ev} {h h1 : AH} {xs : List W} (e : d σ h = .ok (fun _ => some xs) h1) : dFor d g b σ h = forS (fun _ => some xs) g b xs.length 0 σ h1 := by
  unfold dFor; rw [e]; rfl
theorem for_ok {d : IDen} {g : TDen} {b : SDen} {σ : Ev} {h h1 : AH} {xs : List W} (P : Nat → Ev → AH → Prop) (e : d σ h = .ok (fun _ => some xs) h1) (h0 : P 0 σ h1)
    (step : ∀ i x σ h, xs[i]? = some x → P i σ h → ∃ σ0 h0 σ1 h1, g x σ h = .nx σ0 h0 ∧ b σ0 h0 = .nx σ1 h1 ∧ P (i + 1) σ1 h1) : ∃ σ' h', dFor d g b σ h = .nx σ' h' ∧ P xs.length σ' h' := by
  rw [sv_for e]
  exact for_thru P step xs.length 0 σ h1 (by omega) h0
theorem sq_lst {d : Den} {σ : Ev} {h h1 : AH} {xs : List W} (e : d σ h = .ok (.lst xs) h1) : dSq d σ h = .ok (fun _ => some xs) h1 := by
  unfold dSq; rw [e]; rfl
theorem rng1 {d : Den} {σ : Ev} {h h1 : AH} {n : Int} (e : d σ h = .ok (.int n) h1) (hn : smI n = true) : dRng (dCons d dNil) σ h = .ok (fun _ => some (rngW 0 n.toNat)) h1 := by
  unfold dRng; rw [ev_cons e ev_nil]; simp only [R.andThen, rngS]; rw [if_pos hn]
/-- a comprehension over a frozen row, told turn by turn -/
theorem lc_thru {xs : List W} {tg : Tg} {vs : List Nat} {c : Option Den} {e : Den} {σ : Ev} (P : Nat → List W → AH → Prop) (step : ∀ i x acc h, xs[i]? = some x → P i acc h → ∃ acc1 h1, lcTurn tg vs c e σ x acc h = some (acc1, h1) ∧ P (i + 1) acc1 h1) :
    ∀ (f i : Nat) (acc : List W) (h : AH), i + f = xs.length → P i acc h → ∃ acc' h', lcW (fun _ => some xs) tg vs c e σ f i acc h = some (acc', h') ∧ P xs.length acc' h'
  | 0, i, acc, h, q, p => by
    refine ⟨acc, h, ?_, by have : i = xs.length := by omega
                           rw [← this]; exact p⟩
    unfold lcW
    simp only []
    rw [if_pos (by omega)]
  | f + 1, i, acc, h, q, p => by
    have hx : xs[i]? = some xs[i] := List.getElem?_eq_getElem (by omega)
    obtain ⟨a1, h1, e1, p1⟩ := step i _ acc h hx p
    obtain ⟨a', h', e3, p3⟩ := lc_thru P step f (i + 1) a1 h1 (by omega) p1
    refine ⟨a', h', ?_, p3⟩
    unfold lcW
    simp only [hx]
    rw [e1]; exact e3
theorem ev_lc {m : Bool} {src : IDen} {tg : Tg} {vs : List Nat} {c : Option Den} {e : Den} {σ : Ev} {h h1 : AH} {xs : List W} (P : Nat → List W → AH → Prop) (es : src σ h = .ok (fun _ => some xs) h1) (h0 : P 0 [] h1)
    (step : ∀ i x acc h, xs[i]? = some x → P i acc h → ∃ acc1 h1, lcTurn tg vs c e σ x acc h = some (acc1, h1) ∧ P (i + 1) acc1 h1) : ∃ acc' h', dLc m src tg vs c e σ h = lcEnd m (some (acc', h')) ∧ P xs.length acc' h' := by
  obtain ⟨a, h', e1, p⟩ := lc_thru P step xs.length 0 [] h1 (by omega) h0
  refine ⟨a, h', ?_, p⟩
  unfold dLc; rw [es]; simp only [R.andThen]; rw [e1]
theorem turn_one {j : Nat} {vs : List Nat} {e : Den} {σ : Ev} {x y : W} {acc : List W} {h h1 : AH} (he : e ((wipeW σ vs).set j (some x)) h = .ok y h1) (hl : acc.length < 1000000) : lcTurn (.one j) vs none e σ x acc h = some (acc ++ [y], h1) := by
  unfold lcTurn stoW condW
  simp only []
  rw [he]; simp only []; rw [if_pos hl]
theorem turn_if {j : Nat} {vs : List Nat} {c e : Den} {σ : Ev} {x y : W} {acc : List W} {h h1 h2 : AH} {b : Bool} (hc : dT c ((wipeW σ vs).set j (some x)) h = .ok b h1) (he : b = true → e ((wipeW σ vs).set j (some x)) h1 = .ok y h2) (hl : acc.length < 1000000) :
    lcTurn (.one j) vs (some c) e σ x acc h = some (if b = true then (acc ++ [y], h2) else (acc, h1)) := by
  unfold lcTurn stoW condW
  simp only []
  rw [hc]
  cases b with
  | false => rfl
  | true => simp only [if_pos]; rw [he rfl]; simp only []; rw [if_pos hl]
end Dn
set_option Elab.async false
set_option linter.all false
set_option maxRecDepth 100000
set_option maxHeartbeats 1000000

/-! printed: what the defs of the program compute -/
namespace K31
open Dn
def b_Queue___init__ : SDen := (dSetA 1 [2] (dVar 0) (dCl (sortF true) (dCons (dVar 1) dNil)))
def f_Queue___init__ : List W → AH → R W := fnW 2 b_Queue___init__
def b_Queue_how_many : SDen := (dRet (dCl lenF (dCons (dUn (fldF 1 [2]) (dVar 0)) dNil)))
def f_Queue_how_many : List W → AH → R W := fnW 1 b_Queue_how_many
def b_Queue_first : SDen := (dSeq (dIfS (dOp (eqF false) (dUn (fldF 1 [2]) (dVar 0)) (dLst false dNil)) (dRaise 1 0 (dCst (.str [101, 109, 112, 116, 121]))) dNext)
  (dRet (dOp ixF (dUn (fldF 1 [2]) (dVar 0)) (dCst (.int 0)))))
def f_Queue_first : List W → AH → R W := fnW 1 b_Queue_first
def b_Queue_put : SDen := (dSeq (dSet 2 (dCl lenF (dCons (dUn (fldF 1 [2]) (dVar 0)) dNil)))
  (dSeq (dDrop (dMtL appF (dUn (fldF 1 [2]) (dVar 0)) (dCons (dVar 1) dNil)))
  (dSeq (dWhile (dAnd (dOp gtF (dVar 2) (dCst (.int 0))) (dOp ltF (dVar 1) (dOp ixF (dUn (fldF 1 [2]) (dVar 0)) (dOp fdivF (dOp subF (dVar 2) (dCst (.int 1))) (dCst (.int 2)))))) (dSeq (dAsgG (dOp ixF (dUn (fldF 1 [2]) (dVar 0)) (dOp fdivF (dOp subF (dVar 2) (dCst (.int 1))) (dCst (.int 2)))) (gSb (dUn (fldF 1 [2]) (dVar 0)) (dVar 2)))
  (dSet 2 (dOp fdivF (dOp subF (dVar 2) (dCst (.int 1))) (dCst (.int 2))))))
  (dAsgG (dVar 1) (gSb (dUn (fldF 1 [2]) (dVar 0)) (dVar 2))))))
def f_Queue_put : List W → AH → R W := fnW 3 b_Queue_put
def b_Queue_lesser_behind : SDen := (dSeq (dPar [2, 3] (dCons (dOp (addF false) (dOp mulF (dCst (.int 2)) (dVar 1)) (dCst (.int 1))) (dCons (dOp (addF false) (dOp mulF (dCst (.int 2)) (dVar 1)) (dCst (.int 2))) dNil)))
  (dSeq (dIfS (dOp geF (dVar 2) (dCl lenF (dCons (dUn (fldF 1 [2]) (dVar 0)) dNil))) (dRet (dCst .non)) dNext)
  (dRet (dIf (dAnd (dOp ltF (dVar 3) (dCl lenF (dCons (dUn (fldF 1 [2]) (dVar 0)) dNil))) (dOp ltF (dOp ixF (dUn (fldF 1 [2]) (dVar 0)) (dVar 3)) (dOp ixF (dUn (fldF 1 [2]) (dVar 0)) (dVar 2)))) (dVar 3) (dVar 2)))))
def f_Queue_lesser_behind : List W → AH → R W := fnW 4 b_Queue_lesser_behind
def b_Queue_sink : SDen := (dSeq (dPar [2, 3] (dCons (dCst (.int 0)) (dCons (dMeth f_Queue_lesser_behind [2] 2 1 0 [0, 1] [] (dVar 0) (dCons (dCst (.int 0)) dNil) dNil) dNil)))
  (dSeq (dWhile (dAnd (dOp (isF true) (dVar 3) (dCst .non)) (dOp ltF (dOp ixF (dUn (fldF 1 [2]) (dVar 0)) (dVar 3)) (dVar 1))) (dSeq (dAsgG (dOp ixF (dUn (fldF 1 [2]) (dVar 0)) (dVar 3)) (gSb (dUn (fldF 1 [2]) (dVar 0)) (dVar 2)))
  (dPar [2, 3] (dCons (dVar 3) (dCons (dMeth f_Queue_lesser_behind [2] 2 1 0 [0, 1] [] (dVar 0) (dCons (dVar 3) dNil) dNil) dNil)))))
  (dAsgG (dVar 1) (gSb (dUn (fldF 1 [2]) (dVar 0)) (dVar 2)))))
def f_Queue_sink : List W → AH → R W := fnW 4 b_Queue_sink
def b_Queue_take : SDen := (dSeq (dSet 1 (dMeth f_Queue_first [2] 3 0 0 [0] [] (dVar 0) dNil dNil))
  (dSeq (dSet 2 (dMtL popF (dUn (fldF 1 [2]) (dVar 0)) dNil))
  (dSeq (dIfS (dOp (eqF true) (dUn (fldF 1 [2]) (dVar 0)) (dLst false dNil)) (dDrop (dMeth f_Queue_sink [2] 4 1 0 [0, 1] [] (dVar 0) (dCons (dVar 2) dNil) dNil)) dNext)
  (dRet (dVar 1)))))
def f_Queue_take : List W → AH → R W := fnW 3 b_Queue_take
def b_Queue_take_all : SDen := (dSeq (dSet 1 (dLst true dNil))
  (dSeq (dWhile (dOp (eqF true) (dUn (fldF 1 [2]) (dVar 0)) (dLst false dNil)) (dDrop (dMtL appF (dVar 1) (dCons (dMeth f_Queue_take [2] 5 0 0 [0] [] (dVar 0) dNil dNil) dNil))))
  (dRet (dCl tupleF (dCons (dVar 1) dNil)))))
def f_Queue_take_all : List W → AH → R W := fnW 2 b_Queue_take_all
def b_Queue_listed : SDen := (dRet (dCl tupleF (dCons (dCl (sortF false) (dCons (dUn (fldF 1 [2]) (dVar 0)) dNil)) dNil)))
def f_Queue_listed : List W → AH → R W := fnW 1 b_Queue_listed
def b__law_heap : SDen := (dSeq (dPar [2, 3] (dCons (dLc false (dSq (dSl false (dVar 0) (dPart none) (dPart (some (dCst (.int 60)))))) (.one 1) [1] none (dCl absF (dCons (dVar 1) dNil))) (dCons (dCst (.int 8011)) dNil)))
  (dSeq (dFor (dSq (dVar 2)) (gN 1) (dSet 3 (dOp modF (dCl intF (dCons (dOp (addF false) (dOp (addF false) (dOp mulF (dVar 3) (dCst (.int 40692))) (dOp modF (dCl intF (dCons (dVar 1) dNil)) (dCst (.int 2147483543)))) (dCst (.int 31))) dNil)) (dCst (.int 2147483647)))))
  (dRet (dLst true (dCons (dUn (revF true) (dLc false (dSq (dVar 2)) (.one 1) [1] (some (dOp geF (dVar 1) (dOp powF (dCst (.int 10)) (dCst (.int 18))))) (dVar 1))) (dCons (dVar 3) dNil))))))
def f__law_heap : List W → AH → R W := fnW 4 b__law_heap
def b__law_draw : SDen := (dSeq (dWhile (dAnd (dOp (eqF true) (dOp ixF (dVar 0) (dCst (.int 0))) (dLst false dNil)) (dOp (eqF false) (dOp ixF (dOp ixF (dVar 0) (dCst (.int 0))) (dUn negF (dCst (.int 1)))) (dCst (.int 0)))) (dDrop (dMtL popF (dOp ixF (dVar 0) (dCst (.int 0))) dNil)))
  (dSeq (dIfS (dOp (eqF true) (dOp ixF (dVar 0) (dCst (.int 0))) (dLst false dNil)) (dSeq (dSet 2 (dMtL popF (dOp ixF (dVar 0) (dCst (.int 0))) dNil))
  (dSeq (dDrop (dMtL appF (dOp ixF (dVar 0) (dCst (.int 0))) (dCons (dOp fdivF (dVar 2) (dVar 1)) dNil)))
  (dRet (dOp modF (dCl intF (dCons (dVar 2) dNil)) (dVar 1))))) dNext)
  (dSeq (dAsgG (dOp modF (dCl intF (dCons (dOp (addF false) (dOp mulF (dOp ixF (dVar 0) (dCst (.int 1))) (dCst (.int 48271))) (dCst (.int 11))) dNil)) (dCst (.int 2147483647))) (gSb (dVar 0) (dCst (.int 1))))
  (dRet (dOp modF (dCl intF (dCons (dOp fdivF (dOp ixF (dVar 0) (dCst (.int 1))) (dCst (.int 64))) dNil)) (dVar 1))))))
def f__law_draw : List W → AH → R W := fnW 3 b__law_draw
def b__law_pick : SDen := (dRet (dOp ixF (dVar 1) (dCall f__law_draw 2 0 [0, 1] [] (dCons (dVar 0) (dCons (dCl lenF (dCons (dVar 1) dNil)) dNil)) dNil)))
def f__law_pick : List W → AH → R W := fnW 2 b__law_pick
def b__law_entry : SDen := (dSeq (dSet 1 (dCall f__law_pick 2 0 [0, 1] [] (dCons (dVar 0) (dCons (dLst false (dCons (dCall f__law_draw 2 0 [0, 1] [] (dCons (dVar 0) (dCons (dCst (.int 4)) dNil)) dNil) (dCons (dCall f__law_draw 2 0 [0, 1] [] (dCons (dVar 0) (dCons (dCst (.int 4)) dNil)) dNil) (dCons (dUn negF (dCall f__law_draw 2 0 [0, 1] [] (dCons (dVar 0) (dCons (dCst (.int 10)) dNil)) dNil)) (dCons (dCall f__law_draw 2 0 [0, 1] [] (dCons (dVar 0) (dCons (dOp powF (dCst (.int 10)) (dCst (.int 9))) dNil)) dNil) dNil))))) dNil)) dNil))
  (dRet (dTup (dCons (dVar 1) (dCons (dCall f__law_pick 2 0 [0, 1] [] (dCons (dVar 0) (dCons (dLst false (dCons (dCst (.str [108, 111, 116])) (dCons (dCst (.str [112, 97, 105, 114])) dNil))) dNil)) dNil) (dCons (dCall f__law_draw 2 0 [0, 1] [] (dCons (dVar 0) (dCons (dCst (.int 3)) dNil)) dNil) dNil))))))
def f__law_entry : List W → AH → R W := fnW 2 b__law_entry
def b__law_least : SDen := (dTryX 2 (dRet (dIf (dVar 1) (dMeth f_Queue_take [2] 5 0 0 [0] [] (dVar 0) dNil dNil) (dMeth f_Queue_first [2] 3 0 0 [0] [] (dVar 0) dNil dNil))) [1] (xIfEq (xFld 0) (xCst (.str [101, 109, 112, 116, 121])) (xCst .non) (xTup2 (xCst (.str [114, 101, 102, 117, 115, 101, 100])) (xFld 0))))
def f__law_least : List W → AH → R W := fnW 3 b__law_least
def b__law_deed : SDen := (dSeq (dSet 3 (dCall f__law_draw 2 0 [0, 1] [] (dCons (dVar 0) (dCons (dCst (.int 9)) dNil)) dNil))
  (dSeq (dIfS (dOp ltF (dVar 3) (dCst (.int 4))) (dSeq (dSet 5 (dCall f__law_entry 1 0 [0] [] (dCons (dVar 0) dNil) dNil))
  (dSeq (dDrop (dMtL appF (dVar 2) (dCons (dVar 5) dNil)))
  (dRet (dOp (isF false) (dMeth f_Queue_put [2] 6 1 0 [0, 1] [] (dVar 1) (dCons (dVar 5) dNil) dNil) (dCst .non))))) dNext)
  (dSeq (dSet 4 (dCl (sortF false) (dCons (dVar 2) dNil)))
  (dSeq (dIfS (dOp ltF (dVar 3) (dCst (.int 7))) (dSeq (dSet 6 (dCall f__law_least 2 0 [0, 1] [] (dCons (dVar 1) (dCons (dCst (.bl true)) dNil)) dNil))
  (dSeq (dIfS (dOp (eqF true) (dVar 4) (dLst false dNil)) (dDrop (dMtL remF (dVar 2) (dCons (dOp ixF (dVar 4) (dCst (.int 0))) dNil))) dNext)
  (dRet (dOp (eqF false) (dVar 6) (dIf (dOp (eqF true) (dVar 4) (dLst false dNil)) (dOp ixF (dVar 4) (dCst (.int 0))) (dCst .non)))))) dNext)
  (dSeq (dIfS (dOp (eqF false) (dVar 3) (dCst (.int 7))) (dRet (dAnd (dOp (eqF false) (dCall f__law_least 2 0 [0, 1] [] (dCons (dVar 1) (dCons (dCst (.bl false)) dNil)) dNil) (dIf (dOp (eqF true) (dVar 4) (dLst false dNil)) (dOp ixF (dVar 4) (dCst (.int 0))) (dCst .non))) (dOp (eqF false) (dMeth f_Queue_listed [2] 7 0 0 [0] [] (dVar 1) dNil dNil) (dCl tupleF (dCons (dVar 4) dNil))))) dNext)
  (dSeq (dIfS (dOp gtF (dCall f__law_draw 2 0 [0, 1] [] (dCons (dVar 0) (dCons (dCst (.int 5)) dNil)) dNil) (dCst (.int 0))) (dRet (dOp (eqF false) (dMeth f_Queue_how_many [2] 8 0 0 [0] [] (dVar 1) dNil dNil) (dCl lenF (dCons (dVar 2) dNil)))) dNext)
  (dSeq (dWhile (dOp (eqF true) (dVar 2) (dLst false dNil)) (dDrop (dMtL popF (dVar 2) dNil)))
  (dRet (dOp (eqF false) (dMeth f_Queue_take_all [2] 9 0 0 [0] [] (dVar 1) dNil dNil) (dCl tupleF (dCons (dVar 4) dNil)))))))))))
def f__law_deed : List W → AH → R W := fnW 7 b__law_deed
def b_law : SDen := (dSeq (dSet 1 (dCall f__law_heap 1 0 [0] [] (dCons (dVar 0) dNil) dNil))
  (dSeq (dSet 2 (dLc false (dRng (dCons (dCall f__law_draw 2 0 [0, 1] [] (dCons (dVar 1) (dCons (dCst (.int 11)) dNil)) dNil) dNil)) (.one 3) [3] none (dCall f__law_entry 1 0 [0] [] (dCons (dVar 1) dNil) dNil)))
  (dSeq (dPar [6, 7, 8] (dCons (dLc true (dSq (dVar 2)) (.one 4) [4] none (dVar 4)) (dCons (dLc true (dSq (dVar 2)) (.one 4) [4] none (dVar 4)) (dCons (dLst true dNil) dNil))))
  (dSeq (dPar [9, 10] (dCons (dMake f_Queue___init__ 2 0 1 [0, 1] [] dNil (dCons (dVar 6) dNil)) (dCons (dMake f_Queue___init__ 2 1 0 [0, 1] [] (dCons (dTup dNil) dNil) dNil) dNil)))
  (dSeq (dIfS (dOr (dOp (eqF true) (dMeth f_Queue_listed [2] 7 0 0 [0] [] (dMake f_Queue___init__ 2 1 0 [0, 1] [] (dCons (dCl tupleF (dCons (dVar 2) dNil)) dNil) dNil) dNil dNil) (dCl tupleF (dCons (dCl (sortF false) (dCons (dVar 2) dNil)) dNil))) (dOp (eqF true) (dMeth f_Queue_how_many [2] 8 0 0 [0] [] (dMake f_Queue___init__ 2 1 0 [0, 1] [] (dCons (dCl tupleF (dCons (dVar 2) dNil)) dNil) dNil) dNil dNil) (dCl lenF (dCons (dVar 2) dNil)))) (dRet (dCst (.bl false))) dNext)
  (dSeq (dIfS (dOr (dOp (eqF true) (dCl (sortF false) (dCons (dVar 6) dNil)) (dCl (sortF false) (dCons (dVar 2) dNil))) (dOp (eqF true) (dVar 6) (dVar 2))) (dRet (dCst (.bl false))) dNext)
  (dSeq (dDrop (dMtL appF (dVar 6) (dCons (dTup (dCons (dUn negF (dOp powF (dCst (.int 10)) (dCst (.int 10)))) (dCons (dCst (.str [108, 111, 116])) (dCons (dCst (.int 0)) dNil)))) dNil)))
  (dSeq (dFor (dRng (dCons (dOp (addF false) (dCst (.int 10)) (dCall f__law_draw 2 0 [0, 1] [] (dCons (dVar 1) (dCons (dCst (.int 31)) dNil)) dNil)) dNil)) (gN 3) (dSeq (dIfS (dOr (dNot (dCall f__law_deed 3 0 [0, 1, 2] [] (dCons (dVar 1) (dCons (dVar 9) (dCons (dVar 7) dNil))) dNil)) (dNot (dCall f__law_deed 3 0 [0, 1, 2] [] (dCons (dVar 1) (dCons (dVar 10) (dCons (dVar 8) dNil))) dNil))) (dRet (dCst (.bl false))) dNext)
  (dIfS (dOr (dOp (eqF true) (dMeth f_Queue_how_many [2] 8 0 0 [0] [] (dVar 9) dNil dNil) (dCl lenF (dCons (dVar 7) dNil))) (dOr (dUn (isiF "bool") (dMeth f_Queue_how_many [2] 8 0 0 [0] [] (dVar 9) dNil dNil)) (dNot (dUn (isiF "tuple") (dMeth f_Queue_listed [2] 7 0 0 [0] [] (dVar 9) dNil dNil))))) (dRet (dCst (.bl false))) dNext)))
  (dSeq (dSet 4 (dCall f__law_entry 1 0 [0] [] (dCons (dVar 1) dNil) dNil))
  (dSeq (dIfS (dOr (dOp (isF true) (dMeth f_Queue_put [2] 6 0 1 [0, 1] [] (dVar 10) dNil (dCons (dVar 4) dNil)) (dCst .non)) (dOp (eqF true) (dMeth f_Queue_how_many [2] 8 0 0 [0] [] (dVar 10) dNil dNil) (dOp (addF false) (dCl lenF (dCons (dVar 8) dNil)) (dCst (.int 1))))) (dRet (dCst (.bl false))) dNext)
  (dSeq (dFor (dSq (dLst false (dCons (dLst false (dCons (dVar 9) (dCons (dVar 7) dNil))) (dCons (dLst false (dCons (dVar 10) (dCons (dOp (addF false) (dVar 8) (dLst false (dCons (dVar 4) dNil))) dNil))) dNil)))) (gN 5) (dSeq (dFor (dSq (dCl (sortF false) (dCons (dOp ixF (dVar 5) (dCst (.int 1))) dNil))) (gN 11) (dIfS (dOr (dOp (eqF true) (dCall f__law_least 2 0 [0, 1] [] (dCons (dOp ixF (dVar 5) (dCst (.int 0))) (dCons (dCst (.bl false)) dNil)) dNil) (dVar 11)) (dOp (eqF true) (dCall f__law_least 2 0 [0, 1] [] (dCons (dOp ixF (dVar 5) (dCst (.int 0))) (dCons (dCst (.bl true)) dNil)) dNil) (dVar 11))) (dRet (dCst (.bl false))) dNext))
  (dIfS (dOr (dOp (isF true) (dCall f__law_least 2 0 [0, 1] [] (dCons (dOp ixF (dVar 5) (dCst (.int 0))) (dCons (dCst (.bl true)) dNil)) dNil) (dCst .non)) (dOp (isF true) (dCall f__law_least 2 0 [0, 1] [] (dCons (dOp ixF (dVar 5) (dCst (.int 0))) (dCons (dCst (.bl false)) dNil)) dNil) (dCst .non))) (dRet (dCst (.bl false))) dNext)))
  (dRet (dAnd (dOp (eqF false) (dMeth f_Queue_take_all [2] 9 0 0 [0] [] (dVar 9) dNil dNil) (dTup dNil)) (dAnd (dOp (eqF false) (dMeth f_Queue_listed [2] 7 0 0 [0] [] (dVar 9) dNil dNil) (dTup dNil)) (dOp (eqF false) (dMeth f_Queue_how_many [2] 8 0 0 [0] [] (dVar 9) dNil dNil) (dCst (.int 0)))))))))))))))))
def f_law : List W → AH → R W := fnW 12 b_law
end K31
set_option Elab.async false
set_option linter.all false
set_option maxRecDepth 100000
set_option maxHeartbeats 1000000

/-! printed: what stands behind the top of the program -/
namespace K31
open PySem L2 Evl Dn
def top (i : Nat) : Stmt := PySem.Challenge.pw_nonearer_k31_whole_queues.main.body.getD i (.Pass ⟨0, 0, 0, 0⟩)
def nmL : List Str := [("word" : Str), ("row" : Str), ("lesser_behind" : Str), ("first" : Str), ("sink" : Str), ("take" : Str), ("put" : Str), ("listed" : Str), ("how_many" : Str), ("take_all" : Str)]
structure Facts (P : Program) (K : PySem.W.Frag) (mg : Str → Option Value) (T : Tb) (fd : Nat → FuncData) : Prop where
  F_Queue___init__ : L2.Fun K "__init__" "Queue.__init__" (inClass (top 4) 0) (T.fa 0) (fd 0)
  F_Queue_how_many : L2.Fun K "how_many" "Queue.how_many" (inClass (top 4) 1) (T.fa 1) (fd 1)
  Me_Queue_how_many : Meth K (T.ca 2) "how_many" (T.fa 1)
  F_Queue_first : L2.Fun K "first" "Queue.first" (inClass (top 4) 2) (T.fa 2) (fd 2)
  Me_Queue_first : Meth K (T.ca 2) "first" (T.fa 2)
  F_Queue_put : L2.Fun K "put" "Queue.put" (inClass (top 4) 3) (T.fa 3) (fd 3)
  Me_Queue_put : Meth K (T.ca 2) "put" (T.fa 3)
  F_Queue_lesser_behind : L2.Fun K "lesser_behind" "Queue.lesser_behind" (inClass (top 4) 5) (T.fa 5) (fd 5)
  Me_Queue_lesser_behind : Meth K (T.ca 2) "lesser_behind" (T.fa 5)
  F_Queue_sink : L2.Fun K "sink" "Queue.sink" (inClass (top 4) 6) (T.fa 6) (fd 6)
  Me_Queue_sink : Meth K (T.ca 2) "sink" (T.fa 6)
  F_Queue_take : L2.Fun K "take" "Queue.take" (inClass (top 4) 4) (T.fa 4) (fd 4)
  Me_Queue_take : Meth K (T.ca 2) "take" (T.fa 4)
  F_Queue_take_all : L2.Fun K "take_all" "Queue.take_all" (inClass (top 4) 7) (T.fa 7) (fd 7)
  Me_Queue_take_all : Meth K (T.ca 2) "take_all" (T.fa 7)
  F_Queue_listed : L2.Fun K "listed" "Queue.listed" (inClass (top 4) 8) (T.fa 8) (fd 8)
  Me_Queue_listed : Meth K (T.ca 2) "listed" (T.fa 8)
  F__law_heap : L2.Fun K "_law_heap" "_law_heap" (top 6) (T.fa 9) (fd 9)
  m__law_heap : mg "_law_heap" = some (.ref (T.fa 9))
  F__law_draw : L2.Fun K "_law_draw" "_law_draw" (top 7) (T.fa 10) (fd 10)
  m__law_draw : mg "_law_draw" = some (.ref (T.fa 10))
  F__law_pick : L2.Fun K "_law_pick" "_law_pick" (top 8) (T.fa 11) (fd 11)
  m__law_pick : mg "_law_pick" = some (.ref (T.fa 11))
  F__law_entry : L2.Fun K "_law_entry" "_law_entry" (top 9) (T.fa 12) (fd 12)
  m__law_entry : mg "_law_entry" = some (.ref (T.fa 12))
  F__law_least : L2.Fun K "_law_least" "_law_least" (top 10) (T.fa 13) (fd 13)
  m__law_least : mg "_law_least" = some (.ref (T.fa 13))
  F__law_deed : L2.Fun K "_law_deed" "_law_deed" (top 11) (T.fa 14) (fd 14)
  m__law_deed : mg "_law_deed" = some (.ref (T.fa 14))
  F_law : L2.Fun K "law" "law" (top 12) (T.fa 15) (fd 15)
  m_law : mg "law" = some (.ref (T.fa 15))
  mgC_Refused : mg "Refused" = some (.ref (T.ca 1))
  sup_Refused : SupF P K mg (T.ca 1) (T.fa 16) (fd 16) "Refused.__init__" "self" "word" "word" "refused"
  supB_Refused : Binds K (fd 16) ["self", "word"] []
  ex_Refused : PySem.W.exmOne K (.ref (T.ca 1)) (.ref (T.ca 1)) = some true
  xf_Refused : XfC K (T.ca 1) ∧ PySem.W.findIn K (.ref (T.ca 1)) "word" = some none
  mgC_Queue : mg "Queue" = some (.ref (T.ca 2))
  C_Queue : Cls K (T.ca 2)
  mk_Queue : Mk K (T.ca 2) (T.fa 0)
  at_row : AtOk K T [2] "row"
  n_word : T.nm[0]? = some ("word" : Str)
  n_row : T.nm[1]? = some ("row" : Str)
  n_lesser_behind : T.nm[2]? = some ("lesser_behind" : Str)
  n_first : T.nm[3]? = some ("first" : Str)
  n_sink : T.nm[4]? = some ("sink" : Str)
  n_take : T.nm[5]? = some ("take" : Str)
  n_put : T.nm[6]? = some ("put" : Str)
  n_listed : T.nm[7]? = some ("listed" : Str)
  n_how_many : T.nm[8]? = some ("how_many" : Str)
  n_take_all : T.nm[9]? = some ("take_all" : Str)
  z_abs : mg "abs" = none
  z_bool : mg "bool" = none
  z_int : mg "int" = none
  z_isinstance : mg "isinstance" = none
  z_len : mg "len" = none
  z_range : mg "range" = none
  z_sorted : mg "sorted" = none
  z_tuple : mg "tuple" = none
theorem all1 {P : Nat → Prop} {c : Nat} (h : P c) : ∀ x ∈ [c], P x := fun x hx => (List.mem_singleton.mp hx) ▸ h
theorem ix_all {X : Cx} : IxR X (rIx X.K) := ix_seq
section
variable {P : Program} {w : World} {K : PySem.W.Frag} {mg : Str → Option Value} {base : Heap} {T : Tb} {fd : Nat → FuncData}
theorem sh_Queue_lesser_behind_2 (B : Facts P K mg T fd) : Shape K (fd 5) (["self", "at"] : List Str) 2 ([] : List Str) [0, 1] [] [] := shape_of B.F_Queue_lesser_behind fun _ _ _ _ _ _ us ws h1 h2 => match us, ws, h1, h2 with | [_, _], [], _, _ => rfl
theorem sh_Queue_first_1 (B : Facts P K mg T fd) : Shape K (fd 2) (["self"] : List Str) 1 ([] : List Str) [0] [] [] := shape_of B.F_Queue_first fun _ _ _ _ _ _ us ws h1 h2 => match us, ws, h1, h2 with | [_], [], _, _ => rfl
theorem sh_Queue_sink_2 (B : Facts P K mg T fd) : Shape K (fd 6) (["self", "entry"] : List Str) 2 ([] : List Str) [0, 1] [] [] := shape_of B.F_Queue_sink fun _ _ _ _ _ _ us ws h1 h2 => match us, ws, h1, h2 with | [_, _], [], _, _ => rfl
theorem sh_Queue_take_1 (B : Facts P K mg T fd) : Shape K (fd 4) (["self"] : List Str) 1 ([] : List Str) [0] [] [] := shape_of B.F_Queue_take fun _ _ _ _ _ _ us ws h1 h2 => match us, ws, h1, h2 with | [_], [], _, _ => rfl
theorem sh__law_draw_2 (B : Facts P K mg T fd) : Shape K (fd 10) (["_law_heap_here", "_law_many"] : List Str) 2 ([] : List Str) [0, 1] [] [] := shape_of B.F__law_draw fun _ _ _ _ _ _ us ws h1 h2 => match us, ws, h1, h2 with | [_, _], [], _, _ => rfl
theorem sh__law_pick_2 (B : Facts P K mg T fd) : Shape K (fd 11) (["_law_heap_here", "_law_some"] : List Str) 2 ([] : List Str) [0, 1] [] [] := shape_of B.F__law_pick fun _ _ _ _ _ _ us ws h1 h2 => match us, ws, h1, h2 with | [_, _], [], _, _ => rfl
theorem sh__law_entry_1 (B : Facts P K mg T fd) : Shape K (fd 12) (["_law_heap_here"] : List Str) 1 ([] : List Str) [0] [] [] := shape_of B.F__law_entry fun _ _ _ _ _ _ us ws h1 h2 => match us, ws, h1, h2 with | [_], [], _, _ => rfl
theorem sh_Queue_put_2 (B : Facts P K mg T fd) : Shape K (fd 3) (["self", "entry"] : List Str) 2 ([] : List Str) [0, 1] [] [] := shape_of B.F_Queue_put fun _ _ _ _ _ _ us ws h1 h2 => match us, ws, h1, h2 with | [_, _], [], _, _ => rfl
theorem sh__law_least_2 (B : Facts P K mg T fd) : Shape K (fd 13) (["_law_queue", "_law_is_taken"] : List Str) 2 ([] : List Str) [0, 1] [] [] := shape_of B.F__law_least fun _ _ _ _ _ _ us ws h1 h2 => match us, ws, h1, h2 with | [_, _], [], _, _ => rfl
theorem sh_Queue_listed_1 (B : Facts P K mg T fd) : Shape K (fd 8) (["self"] : List Str) 1 ([] : List Str) [0] [] [] := shape_of B.F_Queue_listed fun _ _ _ _ _ _ us ws h1 h2 => match us, ws, h1, h2 with | [_], [], _, _ => rfl
theorem sh_Queue_how_many_1 (B : Facts P K mg T fd) : Shape K (fd 1) (["self"] : List Str) 1 ([] : List Str) [0] [] [] := shape_of B.F_Queue_how_many fun _ _ _ _ _ _ us ws h1 h2 => match us, ws, h1, h2 with | [_], [], _, _ => rfl
theorem sh_Queue_take_all_1 (B : Facts P K mg T fd) : Shape K (fd 7) (["self"] : List Str) 1 ([] : List Str) [0] [] [] := shape_of B.F_Queue_take_all fun _ _ _ _ _ _ us ws h1 h2 => match us, ws, h1, h2 with | [_], [], _, _ => rfl
theorem sh__law_heap_1 (B : Facts P K mg T fd) : Shape K (fd 9) (["_law_script"] : List Str) 1 ([] : List Str) [0] [] [] := shape_of B.F__law_heap fun _ _ _ _ _ _ us ws h1 h2 => match us, ws, h1, h2 with | [_], [], _, _ => rfl
theorem sh_Queue___init___1_entries (B : Facts P K mg T fd) : Shape K (fd 0) (["self", "entries"] : List Str) 1 (["entries"] : List Str) [0, 1] [] [] := shape_of B.F_Queue___init__ fun _ _ _ _ _ _ us ws h1 h2 => match us, ws, h1, h2 with | [_], [_], _, _ => rfl
theorem sh_Queue___init___2 (B : Facts P K mg T fd) : Shape K (fd 0) (["self", "entries"] : List Str) 2 ([] : List Str) [0, 1] [] [] := shape_of B.F_Queue___init__ fun _ _ _ _ _ _ us ws h1 h2 => match us, ws, h1, h2 with | [_, _], [], _, _ => rfl
theorem sh__law_deed_3 (B : Facts P K mg T fd) : Shape K (fd 14) (["_law_heap_here", "_law_queue", "_law_due"] : List Str) 3 ([] : List Str) [0, 1, 2] [] [] := shape_of B.F__law_deed fun _ _ _ _ _ _ us ws h1 h2 => match us, ws, h1, h2 with | [_, _, _], [], _, _ => rfl
theorem sh_Queue_put_1_entry (B : Facts P K mg T fd) : Shape K (fd 3) (["self", "entry"] : List Str) 1 (["entry"] : List Str) [0, 1] [] [] := shape_of B.F_Queue_put fun _ _ _ _ _ _ us ws h1 h2 => match us, ws, h1, h2 with | [_], [_], _, _ => rfl
theorem sc_Queue___init__ : FnScope (["self", "entries"] : List Str) (["self", "entries"] : List Str) (defScope (inClass (top 4) 0)) := ⟨rfl, rfl, rfl, by decide +kernel, rfl, by decide +kernel, by decide +kernel⟩
theorem ok_Queue___init__ (B : Facts P K mg T fd) : FnOk P w K mg base (L2.CX P w) 1 (T.fa 0) (fd 0) (["self", "entries"] : List Str) (spD K T 2 f_Queue___init__) :=
  have nd := sc_Queue___init__.nd
  fn_D (n := 2) B.F_Queue___init__ sc_Queue___init__ rfl fun cdv A outer s H E hr tk =>
  (q_one (s_setA B.n_row B.at_row (Dn.s_var (pv 0)) (s_callB (cr_sortD rfl hr.units) (S_sort (m := true)) rfl B.z_sorted PyProof.Rows.Boot.«sorted» (fun _ _ => rfl) ns_nil (a_cons (fun _ _ => rfl) (Dn.s_var (pv 1)) a_nil) (by decide) (by decide)) rfl))
theorem sc_Queue_how_many : FnScope (["self"] : List Str) (["self"] : List Str) (defScope (inClass (top 4) 1)) := ⟨rfl, rfl, rfl, by decide +kernel, rfl, by decide +kernel, by decide +kernel⟩
theorem ok_Queue_how_many (B : Facts P K mg T fd) : FnOk P w K mg base (L2.CX P w) 1 (T.fa 1) (fd 1) (["self"] : List Str) (spD K T 1 f_Queue_how_many) :=
  have nd := sc_Queue_how_many.nd
  fn_D (n := 1) B.F_Queue_how_many sc_Queue_how_many rfl fun cdv A outer s H E hr tk =>
  (q_one (Dn.s_ret (s_callB cl_len S_len rfl B.z_len PyProof.Rows.Boot.«len» (fun _ _ => rfl) ns_nil (a_cons (fun _ _ => rfl) (s_fld B.n_row B.at_row (Dn.s_var (pv 0)) rfl) a_nil) (by decide) (by decide))))
theorem sc_Queue_first : FnScope (["self"] : List Str) (["self"] : List Str) (defScope (inClass (top 4) 2)) := ⟨rfl, rfl, rfl, by decide +kernel, rfl, by decide +kernel, by decide +kernel⟩
theorem ok_Queue_first (B : Facts P K mg T fd) : FnOk P w K mg base (L2.CX P w) 3 (T.fa 2) (fd 2) (["self"] : List Str) (spD K T 1 f_Queue_first) :=
  have nd := sc_Queue_first.nd
  fn_D (n := 1) B.F_Queue_first sc_Queue_first rfl fun cdv A outer s H E hr tk =>
  (q_cons (s_ifS (t_cmp (op_eqD hr.units) S_eq bl_eq (s_fld B.n_row B.at_row (Dn.s_var (pv 0)) rfl) (s_lst false a_nil) (by decide) (by decide)) (q_one (s_raise (k := 0) (n0 := "self") (n1 := "word") rfl tk (hr.mono (by decide)) B.n_word B.sup_Refused B.supB_Refused rfl B.mgC_Refused (s_cst pe_str fun _ => ⟨rfl, by decide, rfl⟩) (fun _ _ => rfl) (by decide))) q_nil)
  (q_one (Dn.s_ret (s_ix ix_all (s_fld B.n_row B.at_row (Dn.s_var (pv 0)) rfl) (s_cst pe_int fun _ => rfl) (fun _ _ => rfl)))))
theorem sc_Queue_put : FnScope (["self", "entry", "at"] : List Str) (["self", "entry"] : List Str) (defScope (inClass (top 4) 3)) := ⟨rfl, rfl, rfl, by decide +kernel, rfl, by decide +kernel, by decide +kernel⟩
theorem ok_Queue_put (B : Facts P K mg T fd) : FnOk P w K mg base (L2.CX P w) 1 (T.fa 3) (fd 3) (["self", "entry"] : List Str) (spD K T 2 f_Queue_put) :=
  have nd := sc_Queue_put.nd
  fn_D (n := 2) B.F_Queue_put sc_Queue_put rfl fun cdv A outer s H E hr tk =>
  (q_cons (Dn.s_set (i := 2) nd rfl (by first | exact Or.inl rfl | exact Or.inr rfl) (s_callB cl_len S_len rfl B.z_len PyProof.Rows.Boot.«len» (fun _ _ => rfl) ns_nil (a_cons (fun _ _ => rfl) (s_fld B.n_row B.at_row (Dn.s_var (pv 0)) rfl) a_nil) (by decide) (by decide)) rfl (Or.inl rfl))
  (q_cons (s_drop (s_lm PySem.F.slot_list_append rfl PySem.F.type_list_append mt_append S_app (s_fld B.n_row B.at_row (Dn.s_var (pv 0)) rfl) (a_cons (fun _ _ => rfl) (Dn.s_var (pv 1)) a_nil) rfl rfl rfl (fun _ _ => rfl) ns_nil) rfl)
  (q_cons (s_while (passes_of rfl) (PW.pt (w_and (t_cmp op_gt S_gt bl_gt (Dn.s_var (pv 2)) (s_cst pe_int fun _ => rfl) (by decide) (by decide)) (pw_and1 (t_cmp (op_ltD hr.units) S_lt bl_lt (Dn.s_var (pv 1)) (s_ix ix_all (s_fld B.n_row B.at_row (Dn.s_var (pv 0)) rfl) (s_op op_fdivN S_fdiv (s_op op_sub S_sub (Dn.s_var (pv 2)) (s_cst pe_int fun _ => rfl)) (s_cst pe_int fun _ => rfl)) (fun _ _ => rfl)) (by decide) (by decide))))) (q_cons (s_asgG (s_ix ix_all (s_fld B.n_row B.at_row (Dn.s_var (pv 0)) rfl) (s_op op_fdivN S_fdiv (s_op op_sub S_sub (Dn.s_var (pv 2)) (s_cst pe_int fun _ => rfl)) (s_cst pe_int fun _ => rfl)) (fun _ _ => rfl)) (g_sub (s_fld B.n_row B.at_row (Dn.s_var (pv 0)) rfl) (Dn.s_var (pv 2)) set_list (fun _ => rfl)) rfl rfl rfl)
  (q_one (Dn.s_set (i := 2) nd rfl (by first | exact Or.inl rfl | exact Or.inr rfl) (s_op op_fdivN S_fdiv (s_op op_sub S_sub (Dn.s_var (pv 2)) (s_cst pe_int fun _ => rfl)) (s_cst pe_int fun _ => rfl)) rfl (Or.inl rfl)))))
  (q_one (s_asgG (Dn.s_var (pv 1)) (g_sub (s_fld B.n_row B.at_row (Dn.s_var (pv 0)) rfl) (Dn.s_var (pv 2)) set_list (fun _ => rfl)) rfl rfl rfl)))))
theorem sc_Queue_lesser_behind : FnScope (["self", "at", "left", "right"] : List Str) (["self", "at"] : List Str) (defScope (inClass (top 4) 5)) := ⟨rfl, rfl, rfl, by decide +kernel, rfl, by decide +kernel, by decide +kernel⟩
theorem ok_Queue_lesser_behind (B : Facts P K mg T fd) : FnOk P w K mg base (L2.CX P w) 1 (T.fa 5) (fd 5) (["self", "at"] : List Str) (spD K T 2 f_Queue_lesser_behind) :=
  have nd := sc_Queue_lesser_behind.nd
  fn_D (n := 2) B.F_Queue_lesser_behind sc_Queue_lesser_behind rfl fun cdv A outer s H E hr tk =>
  (q_cons (s_par (i := 2) (j := 3) rfl nd rfl rfl (by decide) rfl rfl (a_cons (fun _ _ => rfl) (s_op op_addW (S_add (m := false)) (s_op op_mul S_mul (s_cst pe_int fun _ => rfl) (Dn.s_var (pv 1))) (s_cst pe_int fun _ => rfl)) (a_cons (fun _ _ => rfl) (s_op op_addW (S_add (m := false)) (s_op op_mul S_mul (s_cst pe_int fun _ => rfl) (Dn.s_var (pv 1))) (s_cst pe_int fun _ => rfl)) a_nil)) rfl rfl)
  (q_cons (s_ifS (t_cmp op_ge S_ge bl_ge (Dn.s_var (pv 2)) (s_callB cl_len S_len rfl B.z_len PyProof.Rows.Boot.«len» (fun _ _ => rfl) ns_nil (a_cons (fun _ _ => rfl) (s_fld B.n_row B.at_row (Dn.s_var (pv 0)) rfl) a_nil) (by decide) (by decide)) (by decide) (by decide)) (q_one (Dn.s_ret (s_cst pe_non fun _ => rfl))) q_nil)
  (q_one (Dn.s_ret (Dn.s_if (PW.pt (w_and (t_cmp (op_ltD hr.units) S_lt bl_lt (Dn.s_var (pv 3)) (s_callB cl_len S_len rfl B.z_len PyProof.Rows.Boot.«len» (fun _ _ => rfl) ns_nil (a_cons (fun _ _ => rfl) (s_fld B.n_row B.at_row (Dn.s_var (pv 0)) rfl) a_nil) (by decide) (by decide)) (by decide) (by decide)) (pw_and1 (t_cmp (op_ltD hr.units) S_lt bl_lt (s_ix ix_all (s_fld B.n_row B.at_row (Dn.s_var (pv 0)) rfl) (Dn.s_var (pv 3)) (fun _ _ => rfl)) (s_ix ix_all (s_fld B.n_row B.at_row (Dn.s_var (pv 0)) rfl) (Dn.s_var (pv 2)) (fun _ _ => rfl)) (by decide) (by decide))))) (Dn.s_var (pv 3)) (Dn.s_var (pv 2)))))))
theorem sc_Queue_sink : FnScope (["self", "entry", "at", "behind"] : List Str) (["self", "entry"] : List Str) (defScope (inClass (top 4) 6)) := ⟨rfl, rfl, rfl, by decide +kernel, rfl, by decide +kernel, by decide +kernel⟩
theorem ok_Queue_sink (B : Facts P K mg T fd) : FnOk P w K mg base (L2.CX P w) 2 (T.fa 6) (fd 6) (["self", "entry"] : List Str) (spD K T 2 f_Queue_sink) :=
  have nd := sc_Queue_sink.nd
  fn_D (n := 2) B.F_Queue_sink sc_Queue_sink rfl fun cdv A outer s H E hr tk =>
  (q_cons (s_par (i := 2) (j := 3) rfl nd rfl rfl (by decide) rfl rfl (a_cons (fun _ _ => rfl) (s_cst pe_int fun _ => rfl) (a_cons (fun _ _ => rfl) (s_meth (n := 1) (ks := ([] : List Str)) (Dn.s_var (pv 0)) (ok_Queue_lesser_behind (w := w) (base := base) B) (hr.mono (by decide)) tk B.n_lesser_behind B.C_Queue B.Me_Queue_lesser_behind (sh_Queue_lesser_behind_2 B) (fun _ => rfl) ⟨rfl, by decide⟩ (ns_cons (fun _ _ => rfl) ns_nil) rfl (a_cons (fun _ _ => rfl) (s_cst pe_int fun _ => rfl) a_nil) k_nil (fun z => nomatch z) rfl) a_nil)) rfl rfl)
  (q_cons (s_while (passes_of rfl) (PW.pt (w_and (t_cmp op_isnot S_isnot bl_is (Dn.s_var (pv 3)) (s_cst pe_non fun _ => rfl) (by decide) (by decide)) (pw_and1 (t_cmp (op_ltD hr.units) S_lt bl_lt (s_ix ix_all (s_fld B.n_row B.at_row (Dn.s_var (pv 0)) rfl) (Dn.s_var (pv 3)) (fun _ _ => rfl)) (Dn.s_var (pv 1)) (by decide) (by decide))))) (q_cons (s_asgG (s_ix ix_all (s_fld B.n_row B.at_row (Dn.s_var (pv 0)) rfl) (Dn.s_var (pv 3)) (fun _ _ => rfl)) (g_sub (s_fld B.n_row B.at_row (Dn.s_var (pv 0)) rfl) (Dn.s_var (pv 2)) set_list (fun _ => rfl)) rfl rfl rfl)
  (q_one (s_par (i := 2) (j := 3) rfl nd rfl rfl (by decide) rfl rfl (a_cons (fun _ _ => rfl) (Dn.s_var (pv 3)) (a_cons (fun _ _ => rfl) (s_meth (n := 1) (ks := ([] : List Str)) (Dn.s_var (pv 0)) (ok_Queue_lesser_behind (w := w) (base := base) B) (hr.mono (by decide)) tk B.n_lesser_behind B.C_Queue B.Me_Queue_lesser_behind (sh_Queue_lesser_behind_2 B) (fun _ => rfl) ⟨rfl, by decide⟩ (ns_cons (fun _ _ => rfl) ns_nil) rfl (a_cons (fun _ _ => rfl) (Dn.s_var (pv 3)) a_nil) k_nil (fun z => nomatch z) rfl) a_nil)) rfl rfl))))
  (q_one (s_asgG (Dn.s_var (pv 1)) (g_sub (s_fld B.n_row B.at_row (Dn.s_var (pv 0)) rfl) (Dn.s_var (pv 2)) set_list (fun _ => rfl)) rfl rfl rfl))))
theorem sc_Queue_take : FnScope (["self", "least", "last"] : List Str) (["self"] : List Str) (defScope (inClass (top 4) 4)) := ⟨rfl, rfl, rfl, by decide +kernel, rfl, by decide +kernel, by decide +kernel⟩
theorem ok_Queue_take (B : Facts P K mg T fd) : FnOk P w K mg base (L2.CX P w) 4 (T.fa 4) (fd 4) (["self"] : List Str) (spD K T 1 f_Queue_take) :=
  have nd := sc_Queue_take.nd
  fn_D (n := 1) B.F_Queue_take sc_Queue_take rfl fun cdv A outer s H E hr tk =>
  (q_cons (Dn.s_set (i := 1) nd rfl (by first | exact Or.inl rfl | exact Or.inr rfl) (s_meth (n := 0) (ks := ([] : List Str)) (Dn.s_var (pv 0)) (ok_Queue_first (w := w) (base := base) B) (hr.mono (by decide)) tk B.n_first B.C_Queue B.Me_Queue_first (sh_Queue_first_1 B) (fun _ => rfl) ⟨rfl, by decide⟩ ns_nil rfl a_nil k_nil (fun _ => rfl) rfl) rfl (Or.inl rfl))
  (q_cons (Dn.s_set (i := 2) nd rfl (by first | exact Or.inl rfl | exact Or.inr rfl) (s_lm0 PySem.F.slot_list_pop rfl PySem.F.type_list_pop mt_pop S_pop (s_fld B.n_row B.at_row (Dn.s_var (pv 0)) rfl) rfl rfl) rfl (Or.inl rfl))
  (q_cons (s_ifS (t_cmp (op_neD hr.units) S_ne bl_eq (s_fld B.n_row B.at_row (Dn.s_var (pv 0)) rfl) (s_lst false a_nil) (by decide) (by decide)) (q_one (s_drop (s_meth (n := 1) (ks := ([] : List Str)) (Dn.s_var (pv 0)) (ok_Queue_sink (w := w) (base := base) B) (hr.mono (by decide)) tk B.n_sink B.C_Queue B.Me_Queue_sink (sh_Queue_sink_2 B) (fun _ => rfl) ⟨rfl, by decide⟩ (ns_cons (fun _ _ => rfl) ns_nil) rfl (a_cons (fun _ _ => rfl) (Dn.s_var (pv 2)) a_nil) k_nil (fun z => nomatch z) rfl) rfl)) q_nil)
  (q_one (Dn.s_ret (Dn.s_var (pv 1)))))))
theorem sc_Queue_take_all : FnScope (["self", "found"] : List Str) (["self"] : List Str) (defScope (inClass (top 4) 7)) := ⟨rfl, rfl, rfl, by decide +kernel, rfl, by decide +kernel, by decide +kernel⟩
theorem ok_Queue_take_all (B : Facts P K mg T fd) : FnOk P w K mg base (L2.CX P w) 5 (T.fa 7) (fd 7) (["self"] : List Str) (spD K T 1 f_Queue_take_all) :=
  have nd := sc_Queue_take_all.nd
  fn_D (n := 1) B.F_Queue_take_all sc_Queue_take_all rfl fun cdv A outer s H E hr tk =>
  (q_cons (Dn.s_set (i := 1) nd rfl (by first | exact Or.inl rfl | exact Or.inr rfl) (s_lst true a_nil) rfl (Or.inl rfl))
  (q_cons (s_while (passes_of rfl) (t_cmp (op_neD hr.units) S_ne bl_eq (s_fld B.n_row B.at_row (Dn.s_var (pv 0)) rfl) (s_lst false a_nil) (by decide) (by decide)) (q_one (s_drop (s_lm PySem.F.slot_list_append rfl PySem.F.type_list_append mt_append S_app (Dn.s_var (pv 1)) (a_cons (fun _ _ => rfl) (s_meth (n := 0) (ks := ([] : List Str)) (Dn.s_var (pv 0)) (ok_Queue_take (w := w) (base := base) B) (hr.mono (by decide)) tk B.n_take B.C_Queue B.Me_Queue_take (sh_Queue_take_1 B) (fun _ => rfl) ⟨rfl, by decide⟩ ns_nil rfl a_nil k_nil (fun _ => rfl) rfl) a_nil) rfl rfl rfl (fun _ _ => rfl) ns_nil) rfl)))
  (q_one (Dn.s_ret (s_callT call_tuple_of S_tuple rfl B.z_tuple PyProof.Rows.Boot.«tuple» (fun _ _ => rfl) ns_nil (a_cons (fun _ _ => rfl) (Dn.s_var (pv 1)) a_nil) (by decide) (by decide))))))
theorem sc_Queue_listed : FnScope (["self"] : List Str) (["self"] : List Str) (defScope (inClass (top 4) 8)) := ⟨rfl, rfl, rfl, by decide +kernel, rfl, by decide +kernel, by decide +kernel⟩
theorem ok_Queue_listed (B : Facts P K mg T fd) : FnOk P w K mg base (L2.CX P w) 1 (T.fa 8) (fd 8) (["self"] : List Str) (spD K T 1 f_Queue_listed) :=
  have nd := sc_Queue_listed.nd
  fn_D (n := 1) B.F_Queue_listed sc_Queue_listed rfl fun cdv A outer s H E hr tk =>
  (q_one (Dn.s_ret (s_callT call_tuple_of S_tuple rfl B.z_tuple PyProof.Rows.Boot.«tuple» (fun _ _ => rfl) ns_nil (a_cons (fun _ _ => rfl) (s_callB (cr_sortD rfl hr.units) (S_sort (m := false)) rfl B.z_sorted PyProof.Rows.Boot.«sorted» (fun _ _ => rfl) ns_nil (a_cons (fun _ _ => rfl) (s_fld B.n_row B.at_row (Dn.s_var (pv 0)) rfl) a_nil) (by decide) (by decide)) a_nil) (by decide) (by decide))))
theorem sc__law_heap : FnScope (["_law_script", "_law_cell", "_law_cells", "_law_stir"] : List Str) (["_law_script"] : List Str) (defScope (top 6)) := ⟨rfl, rfl, rfl, by decide +kernel, rfl, by decide +kernel, by decide +kernel⟩
theorem ok__law_heap (B : Facts P K mg T fd) : FnOk P w K mg base (L2.CX P w) 1 (T.fa 9) (fd 9) (["_law_script"] : List Str) (spD K T 1 f__law_heap) :=
  have nd := sc__law_heap.nd
  fn_D (n := 1) B.F__law_heap sc__law_heap rfl fun cdv A outer s H E hr tk =>
  (q_cons (s_par (i := 2) (j := 3) rfl nd rfl rfl (by decide) rfl rfl (a_cons (fun _ _ => rfl) (s_lc (m := false) (t := (.one 1)) (own := [(("_law_cell" : Str), 1)]) rfl nd (i_seq (Dn.s_sl false (Dn.s_var (pv 0)) s_po_none (s_po_some (s_cst pe_int fun _ => rfl)))) (blkOk_by (N := (["_law_script", "_law_cell", "_law_cells", "_law_stir"] : List Str)) (sc := defScope (top 6)) (by decide +kernel)) (by decide) (fun _ _ _ _ _ => pg_name nd rfl (by first | exact Or.inl rfl | exact Or.inr rfl) (Or.inr rfl)) (fun _ _ _ _ _ => pts_nil) (fun _ _ _ _ _ => (s_callB call_abs S_abs rfl B.z_abs PyProof.Rows.Boot.«abs» (fun _ _ => rfl) ns_nil (a_cons (fun _ _ => rfl) (Dn.s_var (pv 1)) a_nil) (by decide) (by decide))) (fun _ => rfl)) (a_cons (fun _ _ => rfl) (s_cst pe_int fun _ => rfl) a_nil)) rfl rfl)
  (q_cons (s_for (passes_of rfl) rfl (i_seq (Dn.s_var (pv 2))) (g_name nd rfl (by first | exact Or.inl rfl | exact Or.inr rfl) (Or.inl rfl)) (q_one (Dn.s_set (i := 3) nd rfl (by first | exact Or.inl rfl | exact Or.inr rfl) (s_op op_modN S_mod (s_callT call_int1 S_int rfl B.z_int PyProof.Rows.Boot.«int» (fun _ _ => rfl) ns_nil (a_cons (fun _ _ => rfl) (s_op op_addW (S_add (m := false)) (s_op op_addW (S_add (m := false)) (s_op op_mul S_mul (Dn.s_var (pv 3)) (s_cst pe_int fun _ => rfl)) (s_op op_modN S_mod (s_callT call_int1 S_int rfl B.z_int PyProof.Rows.Boot.«int» (fun _ _ => rfl) ns_nil (a_cons (fun _ _ => rfl) (Dn.s_var (pv 1)) a_nil) (by decide) (by decide)) (s_cst pe_int fun _ => rfl))) (s_cst pe_int fun _ => rfl)) a_nil) (by decide) (by decide)) (s_cst pe_int fun _ => rfl)) rfl (Or.inl rfl))) (fun _ => rfl))
  (q_one (Dn.s_ret (s_lst true (a_cons (fun _ _ => rfl) (s_rev true (s_lc (m := false) (t := (.one 1)) (own := [(("_law_cell" : Str), 1)]) rfl nd (i_seq (Dn.s_var (pv 2))) (blkOk_by (N := (["_law_script", "_law_cell", "_law_cells", "_law_stir"] : List Str)) (sc := defScope (top 6)) (by decide +kernel)) (by decide) (fun _ _ _ _ _ => pg_name nd rfl (by first | exact Or.inl rfl | exact Or.inr rfl) (Or.inr rfl)) (fun _ _ _ _ _ => pts_one (t_cmp op_ge S_ge bl_ge (Dn.s_var (pv 1)) (s_op op_pow S_pow (s_cst pe_int fun _ => rfl) (s_cst pe_int fun _ => rfl)) (by decide) (by decide))) (fun _ _ _ _ _ => (Dn.s_var (pv 1))) (fun _ => rfl))) (a_cons (fun _ _ => rfl) (Dn.s_var (pv 3)) a_nil)))))))
theorem sc__law_draw : FnScope (["_law_heap_here", "_law_many", "_law_rest"] : List Str) (["_law_heap_here", "_law_many"] : List Str) (defScope (top 7)) := ⟨rfl, rfl, rfl, by decide +kernel, rfl, by decide +kernel, by decide +kernel⟩
theorem ok__law_draw (B : Facts P K mg T fd) : FnOk P w K mg base (L2.CX P w) 1 (T.fa 10) (fd 10) (["_law_heap_here", "_law_many"] : List Str) (spD K T 2 f__law_draw) :=
  have nd := sc__law_draw.nd
  fn_D (n := 2) B.F__law_draw sc__law_draw rfl fun cdv A outer s H E hr tk =>
  (q_cons (s_while (passes_of rfl) (PW.pt (w_and (t_cmp (op_neD hr.units) S_ne bl_eq (s_ix ix_all (Dn.s_var (pv 0)) (s_cst pe_int fun _ => rfl) (fun _ _ => rfl)) (s_lst false a_nil) (by decide) (by decide)) (pw_and1 (t_cmp (op_eqD hr.units) S_eq bl_eq (s_ix ix_all (s_ix ix_all (Dn.s_var (pv 0)) (s_cst pe_int fun _ => rfl) (fun _ _ => rfl)) (s_neg (s_cst pe_int fun _ => rfl)) (fun _ _ => rfl)) (s_cst pe_int fun _ => rfl) (by decide) (by decide))))) (q_one (s_drop (s_lm0 PySem.F.slot_list_pop rfl PySem.F.type_list_pop mt_pop S_pop (s_ix ix_all (Dn.s_var (pv 0)) (s_cst pe_int fun _ => rfl) (fun _ _ => rfl)) rfl rfl) rfl)))
  (q_cons (s_ifS (t_cmp (op_neD hr.units) S_ne bl_eq (s_ix ix_all (Dn.s_var (pv 0)) (s_cst pe_int fun _ => rfl) (fun _ _ => rfl)) (s_lst false a_nil) (by decide) (by decide)) (q_cons (Dn.s_set (i := 2) nd rfl (by first | exact Or.inl rfl | exact Or.inr rfl) (s_lm0 PySem.F.slot_list_pop rfl PySem.F.type_list_pop mt_pop S_pop (s_ix ix_all (Dn.s_var (pv 0)) (s_cst pe_int fun _ => rfl) (fun _ _ => rfl)) rfl rfl) rfl (Or.inl rfl))
  (q_cons (s_drop (s_lm PySem.F.slot_list_append rfl PySem.F.type_list_append mt_append S_app (s_ix ix_all (Dn.s_var (pv 0)) (s_cst pe_int fun _ => rfl) (fun _ _ => rfl)) (a_cons (fun _ _ => rfl) (s_op op_fdivN S_fdiv (Dn.s_var (pv 2)) (Dn.s_var (pv 1))) a_nil) rfl rfl rfl (fun _ _ => rfl) ns_nil) rfl)
  (q_one (Dn.s_ret (s_op op_modN S_mod (s_callT call_int1 S_int rfl B.z_int PyProof.Rows.Boot.«int» (fun _ _ => rfl) ns_nil (a_cons (fun _ _ => rfl) (Dn.s_var (pv 2)) a_nil) (by decide) (by decide)) (Dn.s_var (pv 1))))))) q_nil)
  (q_cons (s_asgG (s_op op_modN S_mod (s_callT call_int1 S_int rfl B.z_int PyProof.Rows.Boot.«int» (fun _ _ => rfl) ns_nil (a_cons (fun _ _ => rfl) (s_op op_addW (S_add (m := false)) (s_op op_mul S_mul (s_ix ix_all (Dn.s_var (pv 0)) (s_cst pe_int fun _ => rfl) (fun _ _ => rfl)) (s_cst pe_int fun _ => rfl)) (s_cst pe_int fun _ => rfl)) a_nil) (by decide) (by decide)) (s_cst pe_int fun _ => rfl)) (g_sub (Dn.s_var (pv 0)) (s_cst pe_int fun _ => rfl) set_list (fun _ => rfl)) rfl rfl rfl)
  (q_one (Dn.s_ret (s_op op_modN S_mod (s_callT call_int1 S_int rfl B.z_int PyProof.Rows.Boot.«int» (fun _ _ => rfl) ns_nil (a_cons (fun _ _ => rfl) (s_op op_fdivN S_fdiv (s_ix ix_all (Dn.s_var (pv 0)) (s_cst pe_int fun _ => rfl) (fun _ _ => rfl)) (s_cst pe_int fun _ => rfl)) a_nil) (by decide) (by decide)) (Dn.s_var (pv 1))))))))
theorem sc__law_pick : FnScope (["_law_heap_here", "_law_some"] : List Str) (["_law_heap_here", "_law_some"] : List Str) (defScope (top 8)) := ⟨rfl, rfl, rfl, by decide +kernel, rfl, by decide +kernel, by decide +kernel⟩
theorem ok__law_pick (B : Facts P K mg T fd) : FnOk P w K mg base (L2.CX P w) 2 (T.fa 11) (fd 11) (["_law_heap_here", "_law_some"] : List Str) (spD K T 2 f__law_pick) :=
  have nd := sc__law_pick.nd
  fn_D (n := 2) B.F__law_pick sc__law_pick rfl fun cdv A outer s H E hr tk =>
  (q_one (Dn.s_ret (s_ix ix_all (Dn.s_var (pv 1)) (s_call (n := 2) (ks := ([] : List Str)) (ok__law_draw (w := w) (base := base) B) (hr.mono (by decide)) tk rfl B.m__law_draw B.F__law_draw.kp (sh__law_draw_2 B) (fun _ => rfl) ⟨rfl, by decide⟩ (ns_cons (fun _ _ => rfl) (ns_cons (fun _ _ => rfl) ns_nil)) rfl (a_cons (fun _ _ => rfl) (Dn.s_var (pv 0)) (a_cons (fun _ _ => rfl) (s_callB cl_len S_len rfl B.z_len PyProof.Rows.Boot.«len» (fun _ _ => rfl) ns_nil (a_cons (fun _ _ => rfl) (Dn.s_var (pv 1)) a_nil) (by decide) (by decide)) a_nil)) k_nil (fun z => nomatch z) (by decide)) (fun _ _ => rfl))))
theorem sc__law_entry : FnScope (["_law_heap_here", "_law_number"] : List Str) (["_law_heap_here"] : List Str) (defScope (top 9)) := ⟨rfl, rfl, rfl, by decide +kernel, rfl, by decide +kernel, by decide +kernel⟩
theorem ok__law_entry (B : Facts P K mg T fd) : FnOk P w K mg base (L2.CX P w) 3 (T.fa 12) (fd 12) (["_law_heap_here"] : List Str) (spD K T 1 f__law_entry) :=
  have nd := sc__law_entry.nd
  fn_D (n := 1) B.F__law_entry sc__law_entry rfl fun cdv A outer s H E hr tk =>
  (q_cons (Dn.s_set (i := 1) nd rfl (by first | exact Or.inl rfl | exact Or.inr rfl) (s_call (n := 2) (ks := ([] : List Str)) (ok__law_pick (w := w) (base := base) B) (hr.mono (by decide)) tk rfl B.m__law_pick B.F__law_pick.kp (sh__law_pick_2 B) (fun _ => rfl) ⟨rfl, by decide⟩ (ns_cons (fun _ _ => rfl) (ns_cons (fun _ _ => rfl) ns_nil)) rfl (a_cons (fun _ _ => rfl) (Dn.s_var (pv 0)) (a_cons (fun _ _ => rfl) (s_lst false (a_cons (fun _ _ => rfl) (s_call (n := 2) (ks := ([] : List Str)) (ok__law_draw (w := w) (base := base) B) (hr.mono (by decide)) tk rfl B.m__law_draw B.F__law_draw.kp (sh__law_draw_2 B) (fun _ => rfl) ⟨rfl, by decide⟩ (ns_cons (fun _ _ => rfl) (ns_cons (fun _ _ => rfl) ns_nil)) rfl (a_cons (fun _ _ => rfl) (Dn.s_var (pv 0)) (a_cons (fun _ _ => rfl) (s_cst pe_int fun _ => rfl) a_nil)) k_nil (fun z => nomatch z) (by decide)) (a_cons (fun _ _ => rfl) (s_call (n := 2) (ks := ([] : List Str)) (ok__law_draw (w := w) (base := base) B) (hr.mono (by decide)) tk rfl B.m__law_draw B.F__law_draw.kp (sh__law_draw_2 B) (fun _ => rfl) ⟨rfl, by decide⟩ (ns_cons (fun _ _ => rfl) (ns_cons (fun _ _ => rfl) ns_nil)) rfl (a_cons (fun _ _ => rfl) (Dn.s_var (pv 0)) (a_cons (fun _ _ => rfl) (s_cst pe_int fun _ => rfl) a_nil)) k_nil (fun z => nomatch z) (by decide)) (a_cons (fun _ _ => rfl) (s_neg (s_call (n := 2) (ks := ([] : List Str)) (ok__law_draw (w := w) (base := base) B) (hr.mono (by decide)) tk rfl B.m__law_draw B.F__law_draw.kp (sh__law_draw_2 B) (fun _ => rfl) ⟨rfl, by decide⟩ (ns_cons (fun _ _ => rfl) (ns_cons (fun _ _ => rfl) ns_nil)) rfl (a_cons (fun _ _ => rfl) (Dn.s_var (pv 0)) (a_cons (fun _ _ => rfl) (s_cst pe_int fun _ => rfl) a_nil)) k_nil (fun z => nomatch z) (by decide))) (a_cons (fun _ _ => rfl) (s_call (n := 2) (ks := ([] : List Str)) (ok__law_draw (w := w) (base := base) B) (hr.mono (by decide)) tk rfl B.m__law_draw B.F__law_draw.kp (sh__law_draw_2 B) (fun _ => rfl) ⟨rfl, by decide⟩ (ns_cons (fun _ _ => rfl) (ns_cons (fun _ _ => rfl) ns_nil)) rfl (a_cons (fun _ _ => rfl) (Dn.s_var (pv 0)) (a_cons (fun _ _ => rfl) (s_op op_pow S_pow (s_cst pe_int fun _ => rfl) (s_cst pe_int fun _ => rfl)) a_nil)) k_nil (fun z => nomatch z) (by decide)) a_nil))))) a_nil)) k_nil (fun z => nomatch z) (by decide)) rfl (Or.inl rfl))
  (q_one (Dn.s_ret (Dn.s_tup (a_cons (fun _ _ => rfl) (Dn.s_var (pv 1)) (a_cons (fun _ _ => rfl) (s_call (n := 2) (ks := ([] : List Str)) (ok__law_pick (w := w) (base := base) B) (hr.mono (by decide)) tk rfl B.m__law_pick B.F__law_pick.kp (sh__law_pick_2 B) (fun _ => rfl) ⟨rfl, by decide⟩ (ns_cons (fun _ _ => rfl) (ns_cons (fun _ _ => rfl) ns_nil)) rfl (a_cons (fun _ _ => rfl) (Dn.s_var (pv 0)) (a_cons (fun _ _ => rfl) (s_lst false (a_cons (fun _ _ => rfl) (s_cst pe_str fun _ => ⟨rfl, by decide, rfl⟩) (a_cons (fun _ _ => rfl) (s_cst pe_str fun _ => ⟨rfl, by decide, rfl⟩) a_nil))) a_nil)) k_nil (fun z => nomatch z) (by decide)) (a_cons (fun _ _ => rfl) (s_call (n := 2) (ks := ([] : List Str)) (ok__law_draw (w := w) (base := base) B) (hr.mono (by decide)) tk rfl B.m__law_draw B.F__law_draw.kp (sh__law_draw_2 B) (fun _ => rfl) ⟨rfl, by decide⟩ (ns_cons (fun _ _ => rfl) (ns_cons (fun _ _ => rfl) ns_nil)) rfl (a_cons (fun _ _ => rfl) (Dn.s_var (pv 0)) (a_cons (fun _ _ => rfl) (s_cst pe_int fun _ => rfl) a_nil)) k_nil (fun z => nomatch z) (by decide)) a_nil)))))))
theorem sc__law_least : FnScope (["_law_queue", "_law_is_taken", "e"] : List Str) (["_law_queue", "_law_is_taken"] : List Str) (defScope (top 10)) := ⟨rfl, rfl, rfl, by decide +kernel, rfl, by decide +kernel, by decide +kernel⟩
theorem ok__law_least (B : Facts P K mg T fd) : FnOk P w K mg base (L2.CX P w) 5 (T.fa 13) (fd 13) (["_law_queue", "_law_is_taken"] : List Str) (spD K T 2 f__law_least) :=
  have nd := sc__law_least.nd
  fn_D (n := 2) B.F__law_least sc__law_least rfl fun cdv A outer s H E hr tk =>
  (q_one (s_tryX (j := 2) rfl rfl nd rfl rfl ⟨rfl, by decide, .inl B.mgC_Refused⟩ (all1 B.ex_Refused) (fun W pn xe tk => (q_one (Dn.s_ret (Dn.s_if (s_truth (Dn.s_var (pv 1)) fun _ => rfl) (s_meth (n := 0) (ks := ([] : List Str)) (Dn.s_var (pv 0)) (ok_Queue_take (w := w) (base := base) B) (hr.mono (by decide)) tk B.n_take B.C_Queue B.Me_Queue_take (sh_Queue_take_1 B) (fun _ => rfl) ⟨rfl, by decide⟩ ns_nil rfl a_nil k_nil (fun _ => rfl) rfl) (s_meth (n := 0) (ks := ([] : List Str)) (Dn.s_var (pv 0)) (ok_Queue_first (w := w) (base := base) B) (hr.mono (by decide)) tk B.n_first B.C_Queue B.Me_Queue_first (sh_Queue_first_1 B) (fun _ => rfl) ⟨rfl, by decide⟩ ns_nil rfl a_nil k_nil (fun _ => rfl) rfl))))) (fun a o cls d pn hz hf => (x_ifeq (x_fld B.n_word (all1 B.xf_Refused) hz hf (pv 2) rfl) (x_cst pe_str fun _ => ⟨rfl, by decide, rfl⟩) (x_cst pe_non fun _ => rfl) (x_tup2 (x_cst pe_str fun _ => ⟨rfl, by decide, rfl⟩) (x_fld B.n_word (all1 B.xf_Refused) hz hf (pv 2) rfl) (fun _ _ => rfl) (fun _ _ => rfl))))))
theorem sc__law_deed : FnScope (["_law_heap_here", "_law_queue", "_law_due", "_law_kind", "_law_rest", "_law_entry_here", "_law_told"] : List Str) (["_law_heap_here", "_law_queue", "_law_due"] : List Str) (defScope (top 11)) := ⟨rfl, rfl, rfl, by decide +kernel, rfl, by decide +kernel, by decide +kernel⟩
theorem ok__law_deed (B : Facts P K mg T fd) : FnOk P w K mg base (L2.CX P w) 6 (T.fa 14) (fd 14) (["_law_heap_here", "_law_queue", "_law_due"] : List Str) (spD K T 3 f__law_deed) :=
  have nd := sc__law_deed.nd
  fn_D (n := 3) B.F__law_deed sc__law_deed rfl fun cdv A outer s H E hr tk =>
  (q_cons (Dn.s_set (i := 3) nd rfl (by first | exact Or.inl rfl | exact Or.inr rfl) (s_call (n := 2) (ks := ([] : List Str)) (ok__law_draw (w := w) (base := base) B) (hr.mono (by decide)) tk rfl B.m__law_draw B.F__law_draw.kp (sh__law_draw_2 B) (fun _ => rfl) ⟨rfl, by decide⟩ (ns_cons (fun _ _ => rfl) (ns_cons (fun _ _ => rfl) ns_nil)) rfl (a_cons (fun _ _ => rfl) (Dn.s_var (pv 0)) (a_cons (fun _ _ => rfl) (s_cst pe_int fun _ => rfl) a_nil)) k_nil (fun z => nomatch z) (by decide)) rfl (Or.inl rfl))
  (q_cons (s_ifS (t_cmp (op_ltD hr.units) S_lt bl_lt (Dn.s_var (pv 3)) (s_cst pe_int fun _ => rfl) (by decide) (by decide)) (q_cons (Dn.s_set (i := 5) nd rfl (by first | exact Or.inl rfl | exact Or.inr rfl) (s_call (n := 1) (ks := ([] : List Str)) (ok__law_entry (w := w) (base := base) B) (hr.mono (by decide)) tk rfl B.m__law_entry B.F__law_entry.kp (sh__law_entry_1 B) (fun _ => rfl) ⟨rfl, by decide⟩ (ns_cons (fun _ _ => rfl) ns_nil) rfl (a_cons (fun _ _ => rfl) (Dn.s_var (pv 0)) a_nil) k_nil (fun z => nomatch z) (by decide)) rfl (Or.inl rfl))
  (q_cons (s_drop (s_lm PySem.F.slot_list_append rfl PySem.F.type_list_append mt_append S_app (Dn.s_var (pv 2)) (a_cons (fun _ _ => rfl) (Dn.s_var (pv 5)) a_nil) rfl rfl rfl (fun _ _ => rfl) ns_nil) rfl)
  (q_one (Dn.s_ret (s_cmp op_is S_is (s_meth (n := 1) (ks := ([] : List Str)) (Dn.s_var (pv 1)) (ok_Queue_put (w := w) (base := base) B) (hr.mono (by decide)) tk B.n_put B.C_Queue B.Me_Queue_put (sh_Queue_put_2 B) (fun _ => rfl) ⟨rfl, by decide⟩ (ns_cons (fun _ _ => rfl) ns_nil) rfl (a_cons (fun _ _ => rfl) (Dn.s_var (pv 5)) a_nil) k_nil (fun z => nomatch z) rfl) (s_cst pe_non fun _ => rfl) (by decide) (by decide)))))) q_nil)
  (q_cons (Dn.s_set (i := 4) nd rfl (by first | exact Or.inl rfl | exact Or.inr rfl) (s_callB (cr_sortD rfl hr.units) (S_sort (m := false)) rfl B.z_sorted PyProof.Rows.Boot.«sorted» (fun _ _ => rfl) ns_nil (a_cons (fun _ _ => rfl) (Dn.s_var (pv 2)) a_nil) (by decide) (by decide)) rfl (Or.inl rfl))
  (q_cons (s_ifS (t_cmp (op_ltD hr.units) S_lt bl_lt (Dn.s_var (pv 3)) (s_cst pe_int fun _ => rfl) (by decide) (by decide)) (q_cons (Dn.s_set (i := 6) nd rfl (by first | exact Or.inl rfl | exact Or.inr rfl) (s_call (n := 2) (ks := ([] : List Str)) (ok__law_least (w := w) (base := base) B) (hr.mono (by decide)) tk rfl B.m__law_least B.F__law_least.kp (sh__law_least_2 B) (fun _ => rfl) ⟨rfl, by decide⟩ (ns_cons (fun _ _ => rfl) (ns_cons (fun _ _ => rfl) ns_nil)) rfl (a_cons (fun _ _ => rfl) (Dn.s_var (pv 1)) (a_cons (fun _ _ => rfl) (s_cst pe_bl fun _ => rfl) a_nil)) k_nil (fun z => nomatch z) (by decide)) rfl (Or.inl rfl))
  (q_cons (s_ifS (t_cmp (op_neD hr.units) S_ne bl_eq (Dn.s_var (pv 4)) (s_lst false a_nil) (by decide) (by decide)) (q_one (s_drop (s_lm PySem.F.slot_list_remove rfl PySem.F.type_list_remove (mt_remD (u65 hr)) S_rem (Dn.s_var (pv 2)) (a_cons (fun _ _ => rfl) (s_ix ix_all (Dn.s_var (pv 4)) (s_cst pe_int fun _ => rfl) (fun _ _ => rfl)) a_nil) rfl rfl rfl (fun _ _ => rfl) ns_nil) rfl)) q_nil)
  (q_one (Dn.s_ret (s_cmp (op_eqD hr.units) S_eq (Dn.s_var (pv 6)) (Dn.s_if (t_cmp (op_neD hr.units) S_ne bl_eq (Dn.s_var (pv 4)) (s_lst false a_nil) (by decide) (by decide)) (s_ix ix_all (Dn.s_var (pv 4)) (s_cst pe_int fun _ => rfl) (fun _ _ => rfl)) (s_cst pe_non fun _ => rfl)) (by decide) (by decide)))))) q_nil)
  (q_cons (s_ifS (t_cmp (op_eqD hr.units) S_eq bl_eq (Dn.s_var (pv 3)) (s_cst pe_int fun _ => rfl) (by decide) (by decide)) (q_one (Dn.s_ret (Dn.s_and (s_cmp (op_eqD hr.units) S_eq (s_call (n := 2) (ks := ([] : List Str)) (ok__law_least (w := w) (base := base) B) (hr.mono (by decide)) tk rfl B.m__law_least B.F__law_least.kp (sh__law_least_2 B) (fun _ => rfl) ⟨rfl, by decide⟩ (ns_cons (fun _ _ => rfl) (ns_cons (fun _ _ => rfl) ns_nil)) rfl (a_cons (fun _ _ => rfl) (Dn.s_var (pv 1)) (a_cons (fun _ _ => rfl) (s_cst pe_bl fun _ => rfl) a_nil)) k_nil (fun z => nomatch z) (by decide)) (Dn.s_if (t_cmp (op_neD hr.units) S_ne bl_eq (Dn.s_var (pv 4)) (s_lst false a_nil) (by decide) (by decide)) (s_ix ix_all (Dn.s_var (pv 4)) (s_cst pe_int fun _ => rfl) (fun _ _ => rfl)) (s_cst pe_non fun _ => rfl)) (by decide) (by decide)) (pe_one (s_cmp (op_eqD hr.units) S_eq (s_meth (n := 0) (ks := ([] : List Str)) (Dn.s_var (pv 1)) (ok_Queue_listed (w := w) (base := base) B) (hr.mono (by decide)) tk B.n_listed B.C_Queue B.Me_Queue_listed (sh_Queue_listed_1 B) (fun _ => rfl) ⟨rfl, by decide⟩ ns_nil rfl a_nil k_nil (fun _ => rfl) rfl) (s_callT call_tuple_of S_tuple rfl B.z_tuple PyProof.Rows.Boot.«tuple» (fun _ _ => rfl) ns_nil (a_cons (fun _ _ => rfl) (Dn.s_var (pv 4)) a_nil) (by decide) (by decide)) (by decide) (by decide)))))) q_nil)
  (q_cons (s_ifS (t_cmp op_gt S_gt bl_gt (s_call (n := 2) (ks := ([] : List Str)) (ok__law_draw (w := w) (base := base) B) (hr.mono (by decide)) tk rfl B.m__law_draw B.F__law_draw.kp (sh__law_draw_2 B) (fun _ => rfl) ⟨rfl, by decide⟩ (ns_cons (fun _ _ => rfl) (ns_cons (fun _ _ => rfl) ns_nil)) rfl (a_cons (fun _ _ => rfl) (Dn.s_var (pv 0)) (a_cons (fun _ _ => rfl) (s_cst pe_int fun _ => rfl) a_nil)) k_nil (fun z => nomatch z) (by decide)) (s_cst pe_int fun _ => rfl) (by decide) (by decide)) (q_one (Dn.s_ret (s_cmp (op_eqD hr.units) S_eq (s_meth (n := 0) (ks := ([] : List Str)) (Dn.s_var (pv 1)) (ok_Queue_how_many (w := w) (base := base) B) (hr.mono (by decide)) tk B.n_how_many B.C_Queue B.Me_Queue_how_many (sh_Queue_how_many_1 B) (fun _ => rfl) ⟨rfl, by decide⟩ ns_nil rfl a_nil k_nil (fun _ => rfl) rfl) (s_callB cl_len S_len rfl B.z_len PyProof.Rows.Boot.«len» (fun _ _ => rfl) ns_nil (a_cons (fun _ _ => rfl) (Dn.s_var (pv 2)) a_nil) (by decide) (by decide)) (by decide) (by decide)))) q_nil)
  (q_cons (s_while (passes_of rfl) (t_cmp (op_neD hr.units) S_ne bl_eq (Dn.s_var (pv 2)) (s_lst false a_nil) (by decide) (by decide)) (q_one (s_drop (s_lm0 PySem.F.slot_list_pop rfl PySem.F.type_list_pop mt_pop S_pop (Dn.s_var (pv 2)) rfl rfl) rfl)))
  (q_one (Dn.s_ret (s_cmp (op_eqD hr.units) S_eq (s_meth (n := 0) (ks := ([] : List Str)) (Dn.s_var (pv 1)) (ok_Queue_take_all (w := w) (base := base) B) (hr.mono (by decide)) tk B.n_take_all B.C_Queue B.Me_Queue_take_all (sh_Queue_take_all_1 B) (fun _ => rfl) ⟨rfl, by decide⟩ ns_nil rfl a_nil k_nil (fun _ => rfl) rfl) (s_callT call_tuple_of S_tuple rfl B.z_tuple PyProof.Rows.Boot.«tuple» (fun _ _ => rfl) ns_nil (a_cons (fun _ _ => rfl) (Dn.s_var (pv 4)) a_nil) (by decide) (by decide)) (by decide) (by decide)))))))))))
theorem sc_law : FnScope (["_law_script", "_law_heap_here", "_law_start", "_law_turn", "_law_entry_here", "_law_queue_due", "_law_handed", "_law_first", "_law_second", "_law_queue", "_law_other", "_law_least_here"] : List Str) (["_law_script"] : List Str) (defScope (top 12)) := ⟨rfl, rfl, rfl, by decide +kernel, rfl, by decide +kernel, by decide +kernel⟩
theorem ok_law (B : Facts P K mg T fd) : FnOk P w K mg base (L2.CX P w) 7 (T.fa 15) (fd 15) (["_law_script"] : List Str) (spD K T 1 f_law) :=
  have nd := sc_law.nd
  fn_D (n := 1) B.F_law sc_law rfl fun cdv A outer s H E hr tk =>
  (q_cons (Dn.s_set (i := 1) nd rfl (by first | exact Or.inl rfl | exact Or.inr rfl) (s_call (n := 1) (ks := ([] : List Str)) (ok__law_heap (w := w) (base := base) B) (hr.mono (by decide)) tk rfl B.m__law_heap B.F__law_heap.kp (sh__law_heap_1 B) (fun _ => rfl) ⟨rfl, by decide⟩ (ns_cons (fun _ _ => rfl) ns_nil) rfl (a_cons (fun _ _ => rfl) (Dn.s_var (pv 0)) a_nil) k_nil (fun z => nomatch z) (by decide)) rfl (Or.inl rfl))
  (q_cons (s_setLc (i := 2) (m := false) (t := (.one 3)) (own := [(("_law_turn" : Str), 3)]) rfl nd rfl rfl (sw_true rfl rfl rfl rfl) (i_rng1 rfl B.z_range (fun _ _ => rfl) (s_call (n := 2) (ks := ([] : List Str)) (ok__law_draw (w := w) (base := base) B) (hr.mono (by decide)) tk rfl B.m__law_draw B.F__law_draw.kp (sh__law_draw_2 B) (fun _ => rfl) ⟨rfl, by decide⟩ (ns_cons (fun _ _ => rfl) (ns_cons (fun _ _ => rfl) ns_nil)) rfl (a_cons (fun _ _ => rfl) (Dn.s_var (pv 1)) (a_cons (fun _ _ => rfl) (s_cst pe_int fun _ => rfl) a_nil)) k_nil (fun z => nomatch z) (by decide))) (blkOk_by (N := (["_law_script", "_law_heap_here", "_law_start", "_law_turn", "_law_entry_here", "_law_queue_due", "_law_handed", "_law_first", "_law_second", "_law_queue", "_law_other", "_law_least_here"] : List Str)) (sc := defScope (top 12)) (by decide +kernel)) (by decide) (fun _ _ _ _ _ => pg_name nd rfl (by first | exact Or.inl rfl | exact Or.inr rfl) (Or.inr rfl)) (fun _ _ _ _ _ => pts_nil) (fun _ _ _ _ _ => (s_call (n := 1) (ks := ([] : List Str)) (ok__law_entry (w := w) (base := base) B) (hr.mono (by decide)) L2.takes0 rfl B.m__law_entry B.F__law_entry.kp (sh__law_entry_1 B) (fun _ => rfl) ⟨rfl, by decide⟩ (ns_cons (fun _ _ => rfl) ns_nil) rfl (a_cons (fun _ _ => rfl) (Dn.s_var (pv 1)) a_nil) k_nil (fun z => nomatch z) (by decide))) (fun _ => rfl))
  (q_cons (s_par3 (i := 6) (j := 7) (k := 8) rfl nd rfl rfl rfl (by decide) (by decide) (by decide) rfl rfl rfl (a_cons (fun _ _ => rfl) (s_lc (m := true) (t := (.one 4)) (own := [(("_law_entry_here" : Str), 4)]) rfl nd (i_seq (Dn.s_var (pv 2))) (blkOk_by (N := (["_law_script", "_law_heap_here", "_law_start", "_law_turn", "_law_entry_here", "_law_queue_due", "_law_handed", "_law_first", "_law_second", "_law_queue", "_law_other", "_law_least_here"] : List Str)) (sc := defScope (top 12)) (by decide +kernel)) (by decide) (fun _ _ _ _ _ => pg_name nd rfl (by first | exact Or.inl rfl | exact Or.inr rfl) (Or.inr rfl)) (fun _ _ _ _ _ => pts_nil) (fun _ _ _ _ _ => (Dn.s_var (pv 4))) (fun _ => rfl)) (a_cons (fun _ _ => rfl) (s_lc (m := true) (t := (.one 4)) (own := [(("_law_entry_here" : Str), 4)]) rfl nd (i_seq (Dn.s_var (pv 2))) (blkOk_by (N := (["_law_script", "_law_heap_here", "_law_start", "_law_turn", "_law_entry_here", "_law_queue_due", "_law_handed", "_law_first", "_law_second", "_law_queue", "_law_other", "_law_least_here"] : List Str)) (sc := defScope (top 12)) (by decide +kernel)) (by decide) (fun _ _ _ _ _ => pg_name nd rfl (by first | exact Or.inl rfl | exact Or.inr rfl) (Or.inr rfl)) (fun _ _ _ _ _ => pts_nil) (fun _ _ _ _ _ => (Dn.s_var (pv 4))) (fun _ => rfl)) (a_cons (fun _ _ => rfl) (s_lst true a_nil) a_nil))) rfl rfl)
  (q_cons (s_par (i := 9) (j := 10) rfl nd rfl rfl (by decide) rfl rfl (a_cons (fun _ _ => rfl) (s_make (n := 0) (ks := (["entries"] : List Str)) B.mk_Queue (ok_Queue___init__ (w := w) (base := base) B) (hr.mono (by decide)) tk rfl B.mgC_Queue (sh_Queue___init___1_entries B) (fun _ => rfl) ⟨rfl, by decide⟩ ns_nil rfl a_nil (k_cons (Dn.s_var (pv 6)) k_nil) (fun _ => rfl) (by decide)) (a_cons (fun _ _ => rfl) (s_make (n := 1) (ks := ([] : List Str)) B.mk_Queue (ok_Queue___init__ (w := w) (base := base) B) (hr.mono (by decide)) tk rfl B.mgC_Queue (sh_Queue___init___2 B) (fun _ => rfl) ⟨rfl, by decide⟩ (ns_cons (fun _ _ => rfl) ns_nil) rfl (a_cons (fun _ _ => rfl) (Dn.s_tup a_nil) a_nil) k_nil (fun z => nomatch z) (by decide)) a_nil)) rfl rfl)
  (q_cons (s_ifS (PW.pt (w_or (t_cmp (op_neD hr.units) S_ne bl_eq (s_meth (n := 0) (ks := ([] : List Str)) (s_make (n := 1) (ks := ([] : List Str)) B.mk_Queue (ok_Queue___init__ (w := w) (base := base) B) (hr.mono (by decide)) tk rfl B.mgC_Queue (sh_Queue___init___2 B) (fun _ => rfl) ⟨rfl, by decide⟩ (ns_cons (fun _ _ => rfl) ns_nil) rfl (a_cons (fun _ _ => rfl) (s_callT call_tuple_of S_tuple rfl B.z_tuple PyProof.Rows.Boot.«tuple» (fun _ _ => rfl) ns_nil (a_cons (fun _ _ => rfl) (Dn.s_var (pv 2)) a_nil) (by decide) (by decide)) a_nil) k_nil (fun z => nomatch z) (by decide)) (ok_Queue_listed (w := w) (base := base) B) (hr.mono (by decide)) tk B.n_listed B.C_Queue B.Me_Queue_listed (sh_Queue_listed_1 B) (fun _ => rfl) ⟨rfl, by decide⟩ ns_nil rfl a_nil k_nil (fun _ => rfl) rfl) (s_callT call_tuple_of S_tuple rfl B.z_tuple PyProof.Rows.Boot.«tuple» (fun _ _ => rfl) ns_nil (a_cons (fun _ _ => rfl) (s_callB (cr_sortD rfl hr.units) (S_sort (m := false)) rfl B.z_sorted PyProof.Rows.Boot.«sorted» (fun _ _ => rfl) ns_nil (a_cons (fun _ _ => rfl) (Dn.s_var (pv 2)) a_nil) (by decide) (by decide)) a_nil) (by decide) (by decide)) (by decide) (by decide)) (pw_or1 (t_cmp (op_neD hr.units) S_ne bl_eq (s_meth (n := 0) (ks := ([] : List Str)) (s_make (n := 1) (ks := ([] : List Str)) B.mk_Queue (ok_Queue___init__ (w := w) (base := base) B) (hr.mono (by decide)) tk rfl B.mgC_Queue (sh_Queue___init___2 B) (fun _ => rfl) ⟨rfl, by decide⟩ (ns_cons (fun _ _ => rfl) ns_nil) rfl (a_cons (fun _ _ => rfl) (s_callT call_tuple_of S_tuple rfl B.z_tuple PyProof.Rows.Boot.«tuple» (fun _ _ => rfl) ns_nil (a_cons (fun _ _ => rfl) (Dn.s_var (pv 2)) a_nil) (by decide) (by decide)) a_nil) k_nil (fun z => nomatch z) (by decide)) (ok_Queue_how_many (w := w) (base := base) B) (hr.mono (by decide)) tk B.n_how_many B.C_Queue B.Me_Queue_how_many (sh_Queue_how_many_1 B) (fun _ => rfl) ⟨rfl, by decide⟩ ns_nil rfl a_nil k_nil (fun _ => rfl) rfl) (s_callB cl_len S_len rfl B.z_len PyProof.Rows.Boot.«len» (fun _ _ => rfl) ns_nil (a_cons (fun _ _ => rfl) (Dn.s_var (pv 2)) a_nil) (by decide) (by decide)) (by decide) (by decide))))) (q_one (Dn.s_ret (s_cst pe_bl fun _ => rfl))) q_nil)
  (q_cons (s_ifS (PW.pt (w_or (t_cmp (op_neD hr.units) S_ne bl_eq (s_callB (cr_sortD rfl hr.units) (S_sort (m := false)) rfl B.z_sorted PyProof.Rows.Boot.«sorted» (fun _ _ => rfl) ns_nil (a_cons (fun _ _ => rfl) (Dn.s_var (pv 6)) a_nil) (by decide) (by decide)) (s_callB (cr_sortD rfl hr.units) (S_sort (m := false)) rfl B.z_sorted PyProof.Rows.Boot.«sorted» (fun _ _ => rfl) ns_nil (a_cons (fun _ _ => rfl) (Dn.s_var (pv 2)) a_nil) (by decide) (by decide)) (by decide) (by decide)) (pw_or1 (t_cmp (op_neD hr.units) S_ne bl_eq (Dn.s_var (pv 6)) (Dn.s_var (pv 2)) (by decide) (by decide))))) (q_one (Dn.s_ret (s_cst pe_bl fun _ => rfl))) q_nil)
  (q_cons (s_drop (s_lm PySem.F.slot_list_append rfl PySem.F.type_list_append mt_append S_app (Dn.s_var (pv 6)) (a_cons (fun _ _ => rfl) (Dn.s_tup (a_cons (fun _ _ => rfl) (s_neg (s_op op_pow S_pow (s_cst pe_int fun _ => rfl) (s_cst pe_int fun _ => rfl))) (a_cons (fun _ _ => rfl) (s_cst pe_str fun _ => ⟨rfl, by decide, rfl⟩) (a_cons (fun _ _ => rfl) (s_cst pe_int fun _ => rfl) a_nil)))) a_nil) rfl rfl rfl (fun _ _ => rfl) ns_nil) rfl)
  (q_cons (s_for (passes_of rfl) rfl (i_rng1 rfl B.z_range (fun _ _ => rfl) (s_op op_addW (S_add (m := false)) (s_cst pe_int fun _ => rfl) (s_call (n := 2) (ks := ([] : List Str)) (ok__law_draw (w := w) (base := base) B) (hr.mono (by decide)) tk rfl B.m__law_draw B.F__law_draw.kp (sh__law_draw_2 B) (fun _ => rfl) ⟨rfl, by decide⟩ (ns_cons (fun _ _ => rfl) (ns_cons (fun _ _ => rfl) ns_nil)) rfl (a_cons (fun _ _ => rfl) (Dn.s_var (pv 1)) (a_cons (fun _ _ => rfl) (s_cst pe_int fun _ => rfl) a_nil)) k_nil (fun z => nomatch z) (by decide)))) (g_name nd rfl (by first | exact Or.inl rfl | exact Or.inr rfl) (Or.inl rfl)) (q_cons (s_ifS (PW.pt (w_or (t_not (s_truth (s_call (n := 3) (ks := ([] : List Str)) (ok__law_deed (w := w) (base := base) B) (hr.mono (by decide)) tk rfl B.m__law_deed B.F__law_deed.kp (sh__law_deed_3 B) (fun _ => rfl) ⟨rfl, by decide⟩ (ns_cons (fun _ _ => rfl) (ns_cons (fun _ _ => rfl) (ns_cons (fun _ _ => rfl) ns_nil))) rfl (a_cons (fun _ _ => rfl) (Dn.s_var (pv 1)) (a_cons (fun _ _ => rfl) (Dn.s_var (pv 9)) (a_cons (fun _ _ => rfl) (Dn.s_var (pv 7)) a_nil))) k_nil (fun z => nomatch z) (by decide)) fun _ => rfl)) (pw_or1 (t_not (s_truth (s_call (n := 3) (ks := ([] : List Str)) (ok__law_deed (w := w) (base := base) B) (hr.mono (by decide)) tk rfl B.m__law_deed B.F__law_deed.kp (sh__law_deed_3 B) (fun _ => rfl) ⟨rfl, by decide⟩ (ns_cons (fun _ _ => rfl) (ns_cons (fun _ _ => rfl) (ns_cons (fun _ _ => rfl) ns_nil))) rfl (a_cons (fun _ _ => rfl) (Dn.s_var (pv 1)) (a_cons (fun _ _ => rfl) (Dn.s_var (pv 10)) (a_cons (fun _ _ => rfl) (Dn.s_var (pv 8)) a_nil))) k_nil (fun z => nomatch z) (by decide)) fun _ => rfl))))) (q_one (Dn.s_ret (s_cst pe_bl fun _ => rfl))) q_nil)
  (q_one (s_ifS (PW.pt (w_or (t_cmp (op_neD hr.units) S_ne bl_eq (s_meth (n := 0) (ks := ([] : List Str)) (Dn.s_var (pv 9)) (ok_Queue_how_many (w := w) (base := base) B) (hr.mono (by decide)) tk B.n_how_many B.C_Queue B.Me_Queue_how_many (sh_Queue_how_many_1 B) (fun _ => rfl) ⟨rfl, by decide⟩ ns_nil rfl a_nil k_nil (fun _ => rfl) rfl) (s_callB cl_len S_len rfl B.z_len PyProof.Rows.Boot.«len» (fun _ _ => rfl) ns_nil (a_cons (fun _ _ => rfl) (Dn.s_var (pv 7)) a_nil) (by decide) (by decide)) (by decide) (by decide)) (w_or (s_truth (s_isi rfl B.z_isinstance rfl B.z_bool PyProof.Rows.Boot.«bool» (by decide) (by decide) (fun _ _ => rfl) (s_meth (n := 0) (ks := ([] : List Str)) (Dn.s_var (pv 9)) (ok_Queue_how_many (w := w) (base := base) B) (hr.mono (by decide)) tk B.n_how_many B.C_Queue B.Me_Queue_how_many (sh_Queue_how_many_1 B) (fun _ => rfl) ⟨rfl, by decide⟩ ns_nil rfl a_nil k_nil (fun _ => rfl) rfl)) fun _ => rfl) (pw_or1 (t_not (s_truth (s_isi rfl B.z_isinstance rfl B.z_tuple PyProof.Rows.Boot.«tuple» (by decide) (by decide) (fun _ _ => rfl) (s_meth (n := 0) (ks := ([] : List Str)) (Dn.s_var (pv 9)) (ok_Queue_listed (w := w) (base := base) B) (hr.mono (by decide)) tk B.n_listed B.C_Queue B.Me_Queue_listed (sh_Queue_listed_1 B) (fun _ => rfl) ⟨rfl, by decide⟩ ns_nil rfl a_nil k_nil (fun _ => rfl) rfl)) fun _ => rfl)))))) (q_one (Dn.s_ret (s_cst pe_bl fun _ => rfl))) q_nil))) (fun _ => rfl))
  (q_cons (Dn.s_set (i := 4) nd rfl (by first | exact Or.inl rfl | exact Or.inr rfl) (s_call (n := 1) (ks := ([] : List Str)) (ok__law_entry (w := w) (base := base) B) (hr.mono (by decide)) tk rfl B.m__law_entry B.F__law_entry.kp (sh__law_entry_1 B) (fun _ => rfl) ⟨rfl, by decide⟩ (ns_cons (fun _ _ => rfl) ns_nil) rfl (a_cons (fun _ _ => rfl) (Dn.s_var (pv 1)) a_nil) k_nil (fun z => nomatch z) (by decide)) rfl (Or.inl rfl))
  (q_cons (s_ifS (PW.pt (w_or (t_cmp op_isnot S_isnot bl_is (s_meth (n := 0) (ks := (["entry"] : List Str)) (Dn.s_var (pv 10)) (ok_Queue_put (w := w) (base := base) B) (hr.mono (by decide)) tk B.n_put B.C_Queue B.Me_Queue_put (sh_Queue_put_1_entry B) (fun _ => rfl) ⟨rfl, by decide⟩ ns_nil rfl a_nil (k_cons (Dn.s_var (pv 4)) k_nil) (fun _ => rfl) rfl) (s_cst pe_non fun _ => rfl) (by decide) (by decide)) (pw_or1 (t_cmp (op_neD hr.units) S_ne bl_eq (s_meth (n := 0) (ks := ([] : List Str)) (Dn.s_var (pv 10)) (ok_Queue_how_many (w := w) (base := base) B) (hr.mono (by decide)) tk B.n_how_many B.C_Queue B.Me_Queue_how_many (sh_Queue_how_many_1 B) (fun _ => rfl) ⟨rfl, by decide⟩ ns_nil rfl a_nil k_nil (fun _ => rfl) rfl) (s_op op_addW (S_add (m := false)) (s_callB cl_len S_len rfl B.z_len PyProof.Rows.Boot.«len» (fun _ _ => rfl) ns_nil (a_cons (fun _ _ => rfl) (Dn.s_var (pv 8)) a_nil) (by decide) (by decide)) (s_cst pe_int fun _ => rfl)) (by decide) (by decide))))) (q_one (Dn.s_ret (s_cst pe_bl fun _ => rfl))) q_nil)
  (q_cons (s_for (passes_of rfl) rfl (i_seq (s_lst false (a_cons (fun _ _ => rfl) (s_lst false (a_cons (fun _ _ => rfl) (Dn.s_var (pv 9)) (a_cons (fun _ _ => rfl) (Dn.s_var (pv 7)) a_nil))) (a_cons (fun _ _ => rfl) (s_lst false (a_cons (fun _ _ => rfl) (Dn.s_var (pv 10)) (a_cons (fun _ _ => rfl) (s_op op_addW (S_add (m := false)) (Dn.s_var (pv 8)) (s_lst false (a_cons (fun _ _ => rfl) (Dn.s_var (pv 4)) a_nil))) a_nil))) a_nil)))) (g_name nd rfl (by first | exact Or.inl rfl | exact Or.inr rfl) (Or.inl rfl)) (q_cons (s_for (passes_of rfl) rfl (i_seq (s_callB (cr_sortD rfl hr.units) (S_sort (m := false)) rfl B.z_sorted PyProof.Rows.Boot.«sorted» (fun _ _ => rfl) ns_nil (a_cons (fun _ _ => rfl) (s_ix ix_all (Dn.s_var (pv 5)) (s_cst pe_int fun _ => rfl) (fun _ _ => rfl)) a_nil) (by decide) (by decide))) (g_name nd rfl (by first | exact Or.inl rfl | exact Or.inr rfl) (Or.inl rfl)) (q_one (s_ifS (PW.pt (w_or (t_cmp (op_neD hr.units) S_ne bl_eq (s_call (n := 2) (ks := ([] : List Str)) (ok__law_least (w := w) (base := base) B) (hr.mono (by decide)) tk rfl B.m__law_least B.F__law_least.kp (sh__law_least_2 B) (fun _ => rfl) ⟨rfl, by decide⟩ (ns_cons (fun _ _ => rfl) (ns_cons (fun _ _ => rfl) ns_nil)) rfl (a_cons (fun _ _ => rfl) (s_ix ix_all (Dn.s_var (pv 5)) (s_cst pe_int fun _ => rfl) (fun _ _ => rfl)) (a_cons (fun _ _ => rfl) (s_cst pe_bl fun _ => rfl) a_nil)) k_nil (fun z => nomatch z) (by decide)) (Dn.s_var (pv 11)) (by decide) (by decide)) (pw_or1 (t_cmp (op_neD hr.units) S_ne bl_eq (s_call (n := 2) (ks := ([] : List Str)) (ok__law_least (w := w) (base := base) B) (hr.mono (by decide)) tk rfl B.m__law_least B.F__law_least.kp (sh__law_least_2 B) (fun _ => rfl) ⟨rfl, by decide⟩ (ns_cons (fun _ _ => rfl) (ns_cons (fun _ _ => rfl) ns_nil)) rfl (a_cons (fun _ _ => rfl) (s_ix ix_all (Dn.s_var (pv 5)) (s_cst pe_int fun _ => rfl) (fun _ _ => rfl)) (a_cons (fun _ _ => rfl) (s_cst pe_bl fun _ => rfl) a_nil)) k_nil (fun z => nomatch z) (by decide)) (Dn.s_var (pv 11)) (by decide) (by decide))))) (q_one (Dn.s_ret (s_cst pe_bl fun _ => rfl))) q_nil)) (fun _ => rfl))
  (q_one (s_ifS (PW.pt (w_or (t_cmp op_isnot S_isnot bl_is (s_call (n := 2) (ks := ([] : List Str)) (ok__law_least (w := w) (base := base) B) (hr.mono (by decide)) tk rfl B.m__law_least B.F__law_least.kp (sh__law_least_2 B) (fun _ => rfl) ⟨rfl, by decide⟩ (ns_cons (fun _ _ => rfl) (ns_cons (fun _ _ => rfl) ns_nil)) rfl (a_cons (fun _ _ => rfl) (s_ix ix_all (Dn.s_var (pv 5)) (s_cst pe_int fun _ => rfl) (fun _ _ => rfl)) (a_cons (fun _ _ => rfl) (s_cst pe_bl fun _ => rfl) a_nil)) k_nil (fun z => nomatch z) (by decide)) (s_cst pe_non fun _ => rfl) (by decide) (by decide)) (pw_or1 (t_cmp op_isnot S_isnot bl_is (s_call (n := 2) (ks := ([] : List Str)) (ok__law_least (w := w) (base := base) B) (hr.mono (by decide)) tk rfl B.m__law_least B.F__law_least.kp (sh__law_least_2 B) (fun _ => rfl) ⟨rfl, by decide⟩ (ns_cons (fun _ _ => rfl) (ns_cons (fun _ _ => rfl) ns_nil)) rfl (a_cons (fun _ _ => rfl) (s_ix ix_all (Dn.s_var (pv 5)) (s_cst pe_int fun _ => rfl) (fun _ _ => rfl)) (a_cons (fun _ _ => rfl) (s_cst pe_bl fun _ => rfl) a_nil)) k_nil (fun z => nomatch z) (by decide)) (s_cst pe_non fun _ => rfl) (by decide) (by decide))))) (q_one (Dn.s_ret (s_cst pe_bl fun _ => rfl))) q_nil))) (fun _ => rfl))
  (q_one (Dn.s_ret (Dn.s_and (s_cmp (op_eqD hr.units) S_eq (s_meth (n := 0) (ks := ([] : List Str)) (Dn.s_var (pv 9)) (ok_Queue_take_all (w := w) (base := base) B) (hr.mono (by decide)) tk B.n_take_all B.C_Queue B.Me_Queue_take_all (sh_Queue_take_all_1 B) (fun _ => rfl) ⟨rfl, by decide⟩ ns_nil rfl a_nil k_nil (fun _ => rfl) rfl) (Dn.s_tup a_nil) (by decide) (by decide)) (Dn.s_and (s_cmp (op_eqD hr.units) S_eq (s_meth (n := 0) (ks := ([] : List Str)) (Dn.s_var (pv 9)) (ok_Queue_listed (w := w) (base := base) B) (hr.mono (by decide)) tk B.n_listed B.C_Queue B.Me_Queue_listed (sh_Queue_listed_1 B) (fun _ => rfl) ⟨rfl, by decide⟩ ns_nil rfl a_nil k_nil (fun _ => rfl) rfl) (Dn.s_tup a_nil) (by decide) (by decide)) (pe_one (s_cmp (op_eqD hr.units) S_eq (s_meth (n := 0) (ks := ([] : List Str)) (Dn.s_var (pv 9)) (ok_Queue_how_many (w := w) (base := base) B) (hr.mono (by decide)) tk B.n_how_many B.C_Queue B.Me_Queue_how_many (sh_Queue_how_many_1 B) (fun _ => rfl) ⟨rfl, by decide⟩ ns_nil rfl a_nil k_nil (fun _ => rfl) rfl) (s_cst pe_int fun _ => rfl) (by decide) (by decide))))))))))))))))))
end
end K31
set_option Elab.async false
set_option linter.all false
set_option maxRecDepth 100000
set_option maxHeartbeats 1000000
/-! Queues, part 1: entries and their order. -/
namespace K31
open Dn PySem
/-- an entry: a number, a kind, a second number -/
structure En where
  n : Int
  p : Bool
  k : Int
  deriving DecidableEq, Inhabited
def kindL (p : Bool) : List Nat := if p then [112, 97, 105, 114] else [108, 111, 116]
def En.w (e : En) : W := .tup [.int e.n, .str (kindL e.p), .int e.k]
/-- before, as Python has it -/
def En.lt (a b : En) : Bool := decide (a.n < b.n) || (decide (a.n = b.n) && ((!a.p && b.p) || (decide (a.p = b.p) && decide (a.k < b.k))))
theorem En.lt_iff {a b : En} : En.lt a b = true ↔ a.n < b.n ∨ (a.n = b.n ∧ ((a.p = false ∧ b.p = true) ∨ (a.p = b.p ∧ a.k < b.k))) := by
  unfold En.lt
  simp
def En.le (a b : En) : Bool := !En.lt b a
theorem En.le_iff {a b : En} : En.le a b = true ↔ ¬ En.lt b a = true := by
  unfold En.le; simp
theorem En.lt_trans {a b c : En} (h : En.lt a b = true) (k : En.lt b c = true) : En.lt a c = true := by
  rw [En.lt_iff] at *
  rcases h with h | ⟨h1, h | ⟨h2, h3⟩⟩ <;> rcases k with k | ⟨k1, k | ⟨k2, k3⟩⟩
  all_goals first
    | (exact .inl (by omega))
    | skip
  · exact .inr ⟨h1.trans k1, by rw [h.2] at k; cases k.1⟩
  · exact .inr ⟨h1.trans k1, .inl ⟨h.1, k2 ▸ h.2⟩⟩
  · exact .inr ⟨h1.trans k1, .inl ⟨h2 ▸ k.1, k.2⟩⟩
  · exact .inr ⟨h1.trans k1, .inr ⟨h2.trans k2, by omega⟩⟩
theorem En.tri (a b : En) : En.lt a b = true ∨ a = b ∨ En.lt b a = true := by
  rw [En.lt_iff, En.lt_iff]
  obtain ⟨n, p, k⟩ := a
  obtain ⟨n', p', k'⟩ := b
  simp only [En.mk.injEq]
  rcases Int.lt_trichotomy n n' with h | h | h
  · exact .inl (.inl h)
  · rcases Int.lt_trichotomy k k' with q | q | q <;> cases p <;> cases p' <;> simp [h, q] <;> omega
  · exact .inr (.inr (.inl h))
theorem En.irr (a : En) : En.lt a a = false := by
  cases h : En.lt a a with
  | false => rfl
  | true => rw [En.lt_iff] at h; rcases h with h | ⟨_, ⟨h1, h2⟩ | ⟨_, h⟩⟩ <;> first | omega | (rw [h1] at h2; cases h2)
theorem En.le_refl (a : En) : En.le a a = true := by unfold En.le; rw [En.irr]; rfl
theorem En.le_of_lt {a b : En} (h : En.lt a b = true) : En.le a b = true := by
  rw [En.le_iff]; intro k
  have := En.lt_trans h k
  rw [En.irr] at this; cases this
theorem En.le_trans {a b c : En} (h : En.le a b = true) (k : En.le b c = true) : En.le a c = true := by
  rw [En.le_iff] at *
  intro q
  rcases En.tri a b with x | x | x
  · exact k (En.lt_trans q x)
  · subst x; exact k q
  · exact h x
theorem En.le_anti {a b : En} (h : En.le a b = true) (k : En.le b a = true) : a = b := by
  rw [En.le_iff] at *
  rcases En.tri a b with x | x | x
  · exact absurd x k
  · exact x
  · exact absurd x h
theorem En.le_total (a b : En) : En.le a b || En.le b a := by
  cases h : En.le a b with
  | true => rfl
  | false =>
    have : En.lt b a = true := by unfold En.le at h; simpa using h
    rw [En.le_of_lt this]; rfl
/-! what the printed functions see -/
theorem kind_inj {p q : Bool} : (kindL p = kindL q) ↔ p = q := by cases p <;> cases q <;> decide
theorem w_eq (a b : En) : eqW 60 a.w b.w = decide (a = b) := by
  obtain ⟨n, p, k⟩ := a
  obtain ⟨n', p', k'⟩ := b
  simp only [En.w, eqW, eqL, En.mk.injEq, Bool.and_true]
  rw [Bool.eq_iff_iff]
  simp [kind_inj]
theorem w_okD (a : En) (k : Nat) : okD (k + 1) a.w = true := by
  cases k <;> simp [En.w, okD]
theorem w_lt (a b : En) : ltW a.w b.w = En.lt a b := by
  obtain ⟨n, p, k⟩ := a
  obtain ⟨n', p', k'⟩ := b
  unfold ltW PySem.W.dataLt
  simp only [En.w, toD, List.map, PySem.W.keyToks, PySem.W.keyToksAll]
  have s1 : PyProof.Rows.strKind.blt (kindL p) (kindL p') = (!p && p') := by cases p <;> cases p' <;> decide
  have s2 : PyProof.Rows.strKind.blt (kindL p') (kindL p) = (!p' && p) := by cases p <;> cases p' <;> decide
  have c1 : (sOf (kindL p)).cps.toList = kindL p := by simp [sOf]
  have c2 : (sOf (kindL p')).cps.toList = kindL p' := by simp [sOf]
  simp only [c1, c2, List.cons_append, List.nil_append, PyProof.Rows.lexLt, PyProof.Rows.itemOrd, PyProof.Rows.itemLt, s1, s2, Int.lt_irrefl, decide_false, Bool.not_false, Bool.true_and, Bool.false_or, Bool.and_false, Bool.or_false]
  unfold En.lt
  rcases Int.lt_trichotomy n n' with h | h | h
  · have h1 : ¬ n' < n := by omega
    have h2 : ¬ n = n' := by omega
    cases p <;> cases p' <;> simp [h, h1, h2]
  · subst h
    have f1 : (kindL false < kindL false) = False := by decide
    have f2 : (kindL true < kindL true) = False := by decide
    have f3 : (kindL false < kindL true) = True := by decide
    have f4 : (kindL true < kindL false) = False := by decide
    have f5 : (kindL true ≤ kindL false) = False := by decide
    have f6 : (kindL false ≤ kindL true) = True := by decide
    cases p <;> cases p' <;> simp [f1, f2, f3, f4, f5, f6]
  · have h1 : ¬ n < n' := by omega
    have h2 : ¬ n = n' := by omega
    cases p <;> cases p' <;> simp [h, h1, h2]
theorem w_inj {a b : En} (h : a.w = b.w) : a = b := by
  obtain ⟨n, p, k⟩ := a
  obtain ⟨n', p', k'⟩ := b
  simp only [En.w, W.tup.injEq, List.cons.injEq, W.int.injEq, W.str.injEq, kind_inj] at h
  simp [h]
end K31
set_option Elab.async false
set_option linter.all false
set_option maxRecDepth 100000
set_option maxHeartbeats 1000000
/-! Queues, part 2: a row in heap order, on plain lists. -/
namespace K31
def g (l : List En) (i : Nat) : En := l.getD i default
theorem g_set {l : List En} {i j : Nat} {a : En} (hi : i < l.length) : g (l.set i a) j = if i = j then a else g l j := by
  unfold g
  rw [List.getD_eq_getElem?_getD, List.getD_eq_getElem?_getD]
  by_cases h : i = j
  · subst h; rw [if_pos rfl, List.getElem?_set_self hi]; rfl
  · rw [if_neg h, List.getElem?_set_ne h]
theorem g_at {l : List En} {i : Nat} (hi : i < l.length) : l[i]? = some (g l i) := by
  unfold g; rw [List.getD_eq_getElem?_getD, List.getElem?_eq_getElem hi]; rfl
theorem g_eq {l : List En} {i : Nat} (hi : i < l.length) : g l i = l[i] := by
  have := g_at hi
  rw [List.getElem?_eq_getElem hi] at this
  exact (Option.some.inj this).symm
def HeapL (l : List En) : Prop := ∀ i, 0 < i → i < l.length → En.le (g l ((i - 1) / 2)) (g l i) = true
/-- the entry rises from the hole at place a -/
def up (e : En) (a : Nat) (l : List En) : List En :=
  if h : 0 < a ∧ En.lt e (g l ((a - 1) / 2)) = true then up e ((a - 1) / 2) (l.set a (g l ((a - 1) / 2))) else l.set a e
  termination_by a
  decreasing_by omega
theorem swap_perm {l : List En} {a b : Nat} {e : En} (ha : a < l.length) (hb : b < l.length) (hab : a ≠ b) : ((l.set a (g l b)).set b e).Perm (l.set a e) := by
  have h1 : a < (l.set a e).length := by rw [List.length_set]; exact ha
  have h2 : b < (l.set a e).length := by rw [List.length_set]; exact hb
  have := List.set_set_perm h1 h2
  rw [List.set_set, List.getElem_set_self] at this
  have hb' : (l.set a e)[b] = g l b := by rw [List.getElem_set_ne hab, g_eq hb]
  rw [hb'] at this
  exact this
theorem up_perm (e : En) : ∀ (a : Nat) (l : List En), a < l.length → (up e a l).Perm (l.set a e) := by
  intro a
  induction a using Nat.strongRecOn with
  | ind a ih =>
    intro l hl
    unfold up
    split
    · rename_i h
      have hp : (a - 1) / 2 < a := by omega
      exact (ih _ hp _ (by rw [List.length_set]; omega)).trans (swap_perm hl (by omega) (by omega))
    · exact .refl _
theorem up_len (e : En) (a : Nat) (l : List En) (h : a < l.length) : (up e a l).length = l.length := by rw [(up_perm e a l h).length_eq, List.length_set]
theorem up_heap (e : En) : ∀ (a : Nat) (l : List En), a < l.length → (∀ i, 0 < i → i < l.length → i ≠ a → En.le (g (l.set a e) ((i - 1) / 2)) (g (l.set a e) i) = true) →
    (∀ i, 0 < a → 0 < i → i < l.length → (i - 1) / 2 = a → En.le (g (l.set a e) ((a - 1) / 2)) (g (l.set a e) i) = true) → HeapL (up e a l) := by
  intro a
  induction a using Nat.strongRecOn with
  | ind a ih =>
    intro l hl h1 h2
    unfold up
    split
    · rename_i h
      have hp : (a - 1) / 2 < a := by omega
      have hpl : (a - 1) / 2 < l.length := by omega
      have el : (l.set a (g l ((a - 1) / 2))).length = l.length := List.length_set
      have gv : ∀ j, g (l.set a e) j = if a = j then e else g l j := fun j => g_set hl
      have gv' : ∀ j, g ((l.set a (g l ((a - 1) / 2))).set ((a - 1) / 2) e) j = if (a - 1) / 2 = j then e else if a = j then g l ((a - 1) / 2) else g l j := fun j => by
        rw [g_set (by rw [el]; exact hpl), g_set hl]
      refine ih _ hp _ (by rw [el]; exact hpl) (fun i i0 il ne => ?_) (fun i a0 i0 il hi => ?_)
      · rw [el] at il
        rw [gv', gv', if_neg (show ¬ (a - 1) / 2 = i from fun z => ne z.symm)]
        by_cases hia : a = i
        · subst hia
          rw [if_pos rfl, if_pos rfl]
          exact En.le_of_lt h.2
        · rw [if_neg hia]
          have base := h1 i i0 il (fun z => hia z.symm)
          rw [gv, gv, if_neg hia] at base
          by_cases q1 : (a - 1) / 2 = (i - 1) / 2
          · rw [if_pos q1]
            rw [if_neg (by omega), ← q1] at base
            exact En.le_trans (En.le_of_lt h.2) base
          · rw [if_neg q1]
            by_cases q2 : a = (i - 1) / 2
            · rw [if_pos q2]
              have := h2 i h.1 i0 il q2.symm
              rwa [gv, gv, if_neg hia, if_neg (by omega)] at this
            · rw [if_neg q2]
              rwa [if_neg q2] at base
      · rw [el] at il
        rw [gv', gv', if_neg (by omega), if_neg (by omega), if_neg (by omega)]
        have top := h1 ((a - 1) / 2) a0 hpl (by omega)
        rw [gv, gv, if_neg (by omega), if_neg (by omega)] at top
        by_cases hia : a = i
        · rw [if_pos hia]; exact top
        · rw [if_neg hia]
          have base := h1 i i0 il (fun z => hia z.symm)
          rw [gv, gv, if_neg hia, hi, if_neg (by omega)] at base
          exact En.le_trans top base
    · rename_i h
      intro i i0 il
      rw [List.length_set] at il
      by_cases hia : i = a
      · subst hia
        have : ¬ En.lt e (g l ((i - 1) / 2)) = true := fun z => h ⟨i0, z⟩
        rw [g_set hl, g_set hl, if_pos rfl, if_neg (by omega)]
        rw [En.le_iff]; exact this
      · exact h1 i i0 il hia
/-- the lesser of the two behind -/
def lesser (l : List En) (a : Nat) : Option Nat := if l.length ≤ 2 * a + 1 then none else some (if 2 * a + 2 < l.length ∧ En.lt (g l (2 * a + 2)) (g l (2 * a + 1)) = true then 2 * a + 2 else 2 * a + 1)
theorem lesser_none {l : List En} {a : Nat} (h : lesser l a = none) : l.length ≤ 2 * a + 1 := by
  unfold lesser at h
  split at h
  · assumption
  · cases h
theorem lesser_some {l : List En} {a b : Nat} (h : lesser l a = some b) : (b = 2 * a + 1 ∨ b = 2 * a + 2) ∧ b < l.length ∧ ∀ i, 0 < i → i < l.length → (i - 1) / 2 = a → En.le (g l b) (g l i) = true := by
  unfold lesser at h
  split at h
  · cases h
  · have h := Option.some.inj h
    split at h
    · rename_i hl hc
      subst h
      refine ⟨.inr rfl, hc.1, fun i i0 il hi => ?_⟩
      have : i = 2 * a + 1 ∨ i = 2 * a + 2 := by omega
      rcases this with rfl | rfl
      · exact En.le_of_lt hc.2
      · exact En.le_refl _
    · rename_i hl hc
      subst h
      refine ⟨.inl rfl, by omega, fun i i0 il hi => ?_⟩
      have : i = 2 * a + 1 ∨ i = 2 * a + 2 := by omega
      rcases this with rfl | rfl
      · exact En.le_refl _
      · rw [En.le_iff]; exact fun z => hc ⟨il, z⟩
/-- the entry sinks from the hole at place a -/
def down (e : En) : Nat → Nat → List En → List En
  | 0, a, l => l.set a e
  | f + 1, a, l => match lesser l a with
    | some b => if En.lt (g l b) e = true then down e f b (l.set a (g l b)) else l.set a e
    | none => l.set a e
theorem down_perm (e : En) : ∀ (f a : Nat) (l : List En), a < l.length → (down e f a l).Perm (l.set a e)
  | 0, a, l, _ => .refl _
  | f + 1, a, l, h => by
    unfold down
    split
    · rename_i b hb
      obtain ⟨h1, h2, _⟩ := lesser_some hb
      split
      · exact (down_perm e f b _ (by rw [List.length_set]; exact h2)).trans (swap_perm h h2 (by omega))
      · exact .refl _
    · exact .refl _
theorem down_heap (e : En) : ∀ (f a : Nat) (l : List En), a < l.length → l.length ≤ a + f → (∀ i, 0 < i → i < l.length → (i - 1) / 2 ≠ a → En.le (g (l.set a e) ((i - 1) / 2)) (g (l.set a e) i) = true) →
    (∀ i, 0 < a → 0 < i → i < l.length → (i - 1) / 2 = a → En.le (g (l.set a e) ((a - 1) / 2)) (g (l.set a e) i) = true) → HeapL (down e f a l)
  | 0, a, l, h, hf, _, _ => by omega
  | f + 1, a, l, hl, hf, h1, h2 => by
    have gv : ∀ j, g (l.set a e) j = if a = j then e else g l j := fun j => g_set hl
    unfold down
    cases hb : lesser l a with
    | none =>
      have hn := lesser_none hb
      intro i i0 il
      rw [List.length_set] at il
      exact h1 i i0 il (by omega)
    | some b =>
      obtain ⟨b1, b2, b3⟩ := lesser_some hb
      have hba : (b - 1) / 2 = a := by omega
      simp only []
      split
      · rename_i hlt
        have el : (l.set a (g l b)).length = l.length := List.length_set
        have gv' : ∀ j, g ((l.set a (g l b)).set b e) j = if b = j then e else if a = j then g l b else g l j := fun j => by
          rw [g_set (by rw [el]; exact b2), g_set hl]
        refine down_heap e f b _ (by rw [el]; exact b2) (by rw [el]; omega) (fun i i0 il ne => ?_) (fun i a0 i0 il hi => ?_)
        · rw [el] at il
          rw [gv', gv', if_neg (fun z => ne z.symm)]
          by_cases hib : b = i
          · rw [if_pos hib]
            subst hib
            rw [if_pos hba.symm]
            exact En.le_of_lt hlt
          · rw [if_neg hib]
            by_cases q : a = (i - 1) / 2
            · rw [if_pos q, if_neg (by omega)]
              exact b3 i i0 il q.symm
            · rw [if_neg q]
              by_cases hia : a = i
              · rw [if_pos hia]
                subst hia
                have := h2 b i0 (by omega) b2 hba
                rwa [gv, gv, if_neg (by omega), if_neg (by omega)] at this
              · rw [if_neg hia]
                have := h1 i i0 il (fun z => q z.symm)
                rwa [gv, gv, if_neg hia, if_neg q] at this
        · rw [el] at il
          rw [gv', gv', hba, if_neg (by omega), if_pos rfl, if_neg (by omega), if_neg (by omega)]
          have := h1 i i0 il (by omega)
          rwa [gv, gv, hi, if_neg (by omega), if_neg (by omega)] at this
      · rename_i hlt
        intro i i0 il
        rw [List.length_set] at il
        by_cases q : (i - 1) / 2 = a
        · rw [gv, gv, if_pos q.symm, if_neg (by omega)]
          exact En.le_trans (En.le_iff.mpr hlt) (b3 i i0 il q)
        · exact h1 i i0 il q
theorem root_le {l : List En} (h : HeapL l) : ∀ i, i < l.length → En.le (g l 0) (g l i) = true := by
  intro i
  induction i using Nat.strongRecOn with
  | ind i ih =>
    intro il
    by_cases h0 : i = 0
    · subst h0; exact En.le_refl _
    · exact En.le_trans (ih ((i - 1) / 2) (by omega) (by omega)) (h i (by omega) il)
end K31
set_option Elab.async false
set_option linter.all false
set_option maxRecDepth 100000
set_option maxHeartbeats 1000000
/-! Queues, part 3: what the printed methods do. -/
namespace K31
open Dn
/-- at n a queue, its row at m holds l -/
structure QAt (h : AH) (n m : Nat) (l : List En) : Prop where
  q : h[n]? = some (.ins 2 [(1, .loc m)])
  r : h[m]? = some (.lst (l.map En.w))
theorem QAt.ne {h : AH} {n m : Nat} {l : List En} (Q : QAt h n m l) : m ≠ n := fun z => by
  have := Q.r; rw [z, Q.q] at this; cases this
theorem QAt.lt {h : AH} {n m : Nat} {l : List En} (Q : QAt h n m l) : m < h.length := (List.getElem?_eq_some_iff.mp Q.r).1
theorem QAt.wr {h : AH} {n m : Nat} {l l' : List En} (Q : QAt h n m l) : QAt (h.set m (.lst (l'.map En.w))) n m l' :=
  ⟨by rw [h_set, if_neg Q.ne]; exact Q.q, by rw [h_set, if_pos rfl, if_pos Q.lt]⟩
abbrev dRow : Den := dUn (fldF 1 [2]) (dVar 0)
section
variable {σ : Ev} {h : AH} {n m : Nat} {l : List En}
theorem row_ok (hs : σ[0]? = some (some (.loc n))) (Q : QAt h n m l) : dRow σ h = .ok (.loc m) h :=
  ev_un (ev_var hs) (by simp only [fldF, Q.q]; rfl)
theorem row_len (hs : σ[0]? = some (some (.loc n))) (Q : QAt h n m l) : dCl lenF (dCons dRow dNil) σ h = .ok (.int (l.length : Nat)) h :=
  ev_cl1 (row_ok hs Q) (by simp only [lenF, seqOf, lstOf, Q.r]; rw [List.length_map]; rfl)
theorem row_ix {di : Den} {k : Nat} (hs : σ[0]? = some (some (.loc n))) (Q : QAt h n m l) (hi : di σ h = .ok (.int (k : Nat)) h) (hk : k < l.length) : dOp ixF dRow di σ h = .ok (g l k).w h := by
  refine ev_op (row_ok hs Q) hi ?_
  have e : L2.atI (l.map En.w) (k : Int) = some (g l k).w := at_nat (by rw [List.getElem?_map, g_at hk]; rfl)
  simp only [ixF, seqOf, lstOf, Q.r, e]
  rfl
theorem row_set {d di : Den} {k : Nat} {e : En} (hs : σ[0]? = some (some (.loc n))) (Q : QAt h n m l) (hd : d σ h = .ok e.w h) (hi : di σ h = .ok (.int (k : Nat)) h) (hk : k < l.length) : dAsgG d (gSb dRow di) σ h = .nx σ (h.set m (.lst ((l.set k e).map En.w))) := by
  refine sv_setI hd (row_ok hs Q) hi ?_
  have e : L2.ixN (l.map En.w).length (k : Int) = some k := ix_nat (by rw [List.length_map]; exact hk)
  simp only [setF, Q.r, e]
  rw [List.map_set]
/-- < of two entries -/
theorem lt_ok {da db : Den} {a b : En} (ha : da σ h = .ok a.w h) (hb : db σ h = .ok b.w h) : dOp ltF da db σ h = .ok (.bl (En.lt a b)) h := by
  refine ev_op ha hb ?_
  have : alikeW a.w b.w = true := by
    unfold alikeW
    rw [w_okD a 59, w_okD b 59]
    cases a; cases b
    simp [En.w, toD, PySem.W.alike, PySem.W.alikeAll]
  unfold ltF
  rw [if_pos this, w_lt]; rfl
end
/-! put -/
abbrev dHalf : Den := dOp fdivF (dOp subF (dVar 2) (dCst (.int 1))) (dCst (.int 2))
theorem half_ok {σ : Ev} {h : AH} {a : Nat} (hs : σ[2]? = some (some (.int (a : Nat)))) (h0 : 0 < a) : dHalf σ h = .ok (.int (((a - 1) / 2 : Nat) : Int)) h := by
  refine ev_op (ev_op (ev_var hs) ev_cst (z := .int ((a : Int) - 1)) rfl) ev_cst ?_
  rw [← half_fdiv h0]; rfl
def putC : Den := dAnd (dOp gtF (dVar 2) (dCst (.int 0))) (dOp ltF (dVar 1) (dOp ixF dRow dHalf))
def putB : SDen := dSeq (dAsgG (dOp ixF dRow dHalf) (gSb dRow (dVar 2))) (dSet 2 dHalf)
theorem put_loop {n m : Nat} {e : En} : ∀ (a : Nat) (l : List En) (h : AH) (f : Nat), a < f → a < l.length → QAt h n m l → ∃ (a' : Nat) (l' : List En) (h' : AH), whW putC putB f [some (.loc n), some e.w, some (.int (a : Nat))] h = .nx [some (.loc n), some e.w, some (.int (a' : Nat))] h' ∧
    a' < l'.length ∧ l'.set a' e = up e a l ∧ h' = h.set m (.lst (l'.map En.w)) := by
  intro a
  induction a using Nat.strongRecOn with
  | ind a ih =>
    intro l h f hf hl Q
    obtain ⟨f, rfl⟩ : ∃ k, f = k + 1 := ⟨f - 1, by omega⟩
    have self : h = h.set m (.lst (l.map En.w)) := by
      apply List.ext_getElem?
      intro i
      rw [h_set]
      split
      · rename_i z; subst z; rw [Q.r, if_pos Q.lt]
      · rfl
    have v2 : ([some (.loc n), some e.w, some (.int (a : Nat))] : Ev)[2]? = some (some (.int (a : Nat))) := rfl
    by_cases h0 : 0 < a
    · have g1 : dOp gtF (dVar 2) (dCst (.int 0)) [some (.loc n), some e.w, some (.int (a : Nat))] h = .ok (.bl true) h := by
        refine ev_op (ev_var v2) ev_cst ?_
        simp [gtF, opI, ret, h0]
      have hp : (a - 1) / 2 < l.length := by omega
      have g2 := lt_ok (da := dVar 1) (db := dOp ixF dRow dHalf) (σ := [some (.loc n), some e.w, some (.int (a : Nat))]) (ev_var rfl) (row_ix rfl Q (half_ok v2 h0) hp)
      have hc : dT putC [some (.loc n), some e.w, some (.int (a : Nat))] h = .ok (En.lt e (g l ((a - 1) / 2))) h := ev_dT ((ev_and_t g1 rfl).trans g2) rfl
      cases q : En.lt e (g l ((a - 1) / 2)) with
      | true =>
        rw [q] at hc
        have Q' : QAt (h.set m (.lst ((l.set a (g l ((a - 1) / 2))).map En.w))) n m (l.set a (g l ((a - 1) / 2))) := Q.wr
        have hb : putB [some (.loc n), some e.w, some (.int (a : Nat))] h = .nx [some (.loc n), some e.w, some (.int (((a - 1) / 2 : Nat) : Int))] (h.set m (.lst ((l.set a (g l ((a - 1) / 2))).map En.w))) :=
          (sv_seq (row_set rfl Q (row_ix rfl Q (half_ok v2 h0) hp) (ev_var v2) hl)).trans (sv_set (half_ok v2 h0))
        obtain ⟨a', l', h', e1, e2, e3, e4⟩ := ih ((a - 1) / 2) (by omega) _ _ f (by omega) (by rw [List.length_set]; exact hp) Q'
        refine ⟨a', l', h', (wh_go hc hb).trans e1, e2, ?_, ?_⟩
        · rw [e3]; conv => rhs; unfold up
          rw [dif_pos ⟨h0, q⟩]
        · rw [e4, List.set_set]
      | false =>
        rw [q] at hc
        refine ⟨a, l, h, wh_stop hc, hl, ?_, self⟩
        unfold up; rw [dif_neg (by rw [q]; simp)]
    · have g1 : dOp gtF (dVar 2) (dCst (.int 0)) [some (.loc n), some e.w, some (.int (a : Nat))] h = .ok (.bl false) h := by
        refine ev_op (ev_var v2) ev_cst ?_
        have : a = 0 := by omega
        subst this; rfl
      refine ⟨a, l, h, wh_stop (ev_dT (ev_and_f g1 rfl) rfl), hl, ?_, self⟩
      unfold up; rw [dif_neg (by omega)]
theorem put_ok {n m : Nat} {e : En} {l : List En} {h : AH} (Q : QAt h n m l) (hz : l.length < 1000000) : f_Queue_put [.loc n, e.w] h = .ok .non (h.set m (.lst ((up e l.length (l ++ [e])).map En.w))) := by
  have Q1 : QAt (h.set m (.lst ((l ++ [e]).map En.w))) n m (l ++ [e]) := Q.wr
  obtain ⟨a', l', h', e1, e2, e3, e4⟩ := put_loop (n := n) (e := e) l.length (l ++ [e]) _ (l.length + 1) (by omega) (by simp) Q1
  have Q2 : QAt h' n m l' := by rw [e4]; exact Q1.wr
  refine fn_nx (σ := [some (.loc n), some e.w, some (.int (a' : Nat))]) ?_
  show b_Queue_put [some (.loc n), some e.w, none] h = _
  refine (sv_seq (sv_set (row_len rfl Q))).trans ?_
  refine (sv_seq (sv_drop (ev_mt (x := .loc m) (z := .non) (h3 := h.set m (.lst ((l ++ [e]).map En.w))) (row_ok rfl Q) (by simp only [isLst, lstOf, Q.r]) (ev_cons (ev_var rfl) ev_nil) ?_))).trans ?_
  · simp only [appF, Q.r]
    rw [if_pos (by rw [List.length_map]; exact mil hz), wrL, List.map_append]; rfl
  · refine (sv_seq (dWhile_of (n := l.length + 1) (by omega) e1 (by intro z; cases z))).trans ?_
    refine (row_set (k := a') rfl Q2 (ev_var rfl) (ev_var rfl) e2).trans ?_
    rw [e3, e4, List.set_set, List.set_set]
/-! lesser_behind, sink -/
abbrev lv (n : Nat) (a : Nat) (x y : Option W) : Ev := [some (.loc n), some (.int (a : Nat)), x, y]
def W.ofO : Option Nat → W
  | some b => .int (b : Nat)
  | none => .non
theorem two_mul_ok {σ : Ev} {h : AH} {a c : Nat} (hs : σ[1]? = some (some (.int (a : Nat)))) : dOp (addF false) (dOp mulF (dCst (.int 2)) (dVar 1)) (dCst (.int (c : Nat))) σ h = .ok (.int ((2 * a + c : Nat) : Int)) h := by
  refine ev_op (h1 := h) (h2 := h) (ev_op (h1 := h) (h2 := h) ev_cst (ev_var hs) (z := .int (2 * (a : Int))) ?_) ev_cst ?_
  · simp [mulF, opIc, ret]
  · simp only [addF, orF, opI, ret]; congr 2
theorem lesser_ok {n m a : Nat} {l : List En} {h : AH} (Q : QAt h n m l) : f_Queue_lesser_behind [.loc n, .int (a : Nat)] h = .ok (W.ofO (lesser l a)) h := by
  refine fn_rt ?_
  show b_Queue_lesser_behind (lv n a none none) h = _
  refine (sv_seq (sv_par (ev_cons (two_mul_ok (a := a) (c := 1) rfl) (ev_cons (two_mul_ok (a := a) (c := 2) rfl) ev_nil)) rfl)).trans ?_
  show dSeq _ _ (lv n a (some (.int ((2 * a + 1 : Nat) : Int))) (some (.int ((2 * a + 2 : Nat) : Int)))) h = _
  generalize hσ : lv n a (some (.int ((2 * a + 1 : Nat) : Int))) (some (.int ((2 * a + 2 : Nat) : Int))) = σ
  have s0 : σ[0]? = some (some (.loc n)) := by rw [← hσ]; rfl
  have s2 : σ[2]? = some (some (.int ((2 * a + 1 : Nat) : Int))) := by rw [← hσ]; rfl
  have s3 : σ[3]? = some (some (.int ((2 * a + 2 : Nat) : Int))) := by rw [← hσ]; rfl
  have c1 : dT (dOp geF (dVar 2) (dCl lenF (dCons dRow dNil))) σ h = .ok (decide (l.length ≤ 2 * a + 1)) h := by
    refine ev_dT (ev_op (ev_var s2) (row_len s0 Q) (z := .bl (decide (l.length ≤ 2 * a + 1))) ?_) rfl
    simp only [geF, opI, ret]
    congr 3
    exact decide_eq_decide.mpr (by omega)
  by_cases hl : l.length ≤ 2 * a + 1
  · rw [decide_eq_true hl] at c1
    refine (sv_seq_rt (x := .non) (h1 := h) ((sv_if c1).trans ?_)).trans ?_
    · rw [if_pos rfl]; exact sv_ret ev_cst
    · unfold lesser; rw [if_pos hl]; rfl
  · rw [decide_eq_false hl] at c1
    refine (sv_seq (σ' := σ) (h1 := h) ((sv_if c1).trans ?_)).trans ?_
    · rw [if_neg (by decide)]; rfl
    have g1 : dOp ltF (dVar 3) (dCl lenF (dCons dRow dNil)) σ h = .ok (.bl (decide (2 * a + 2 < l.length))) h := by
      refine ev_op (ev_var s3) (row_len s0 Q) ?_
      have al : alikeW (.int ((2 * a + 2 : Nat) : Int)) (.int (l.length : Nat)) = true := by simp [alikeW, okD, toD, PySem.W.alike]
      unfold ltF
      rw [if_pos al]
      simp only [ret, ltW, toD, PySem.W.dataLt, PySem.W.keyToks, PyProof.Rows.lexLt, PyProof.Rows.itemLt, Bool.and_false, Bool.or_false]
      congr 3
      exact decide_eq_decide.mpr (by omega)
    refine (sv_ret (x := W.ofO (lesser l a)) (h1 := h) ?_)
    unfold lesser
    rw [if_neg hl]
    by_cases h2 : 2 * a + 2 < l.length
    · rw [decide_eq_true h2] at g1
      have g2 := lt_ok (da := dOp ixF dRow (dVar 3)) (db := dOp ixF dRow (dVar 2)) (row_ix s0 Q (ev_var s3) h2) (row_ix s0 Q (ev_var s2) (by omega))
      have hc := ev_dT (k := En.lt (g l (2 * a + 2)) (g l (2 * a + 1))) ((ev_and_t g1 rfl).trans g2) rfl
      refine (ev_if hc).trans ?_
      by_cases h3 : En.lt (g l (2 * a + 2)) (g l (2 * a + 1)) = true
      · rw [if_pos h3, if_pos ⟨h2, h3⟩]; exact ev_var s3
      · rw [if_neg h3, if_neg (fun z => h3 z.2)]; exact ev_var s2
    · rw [decide_eq_false h2] at g1
      have hc := ev_dT (k := false) (ev_and_f (b := dOp ltF (dOp ixF dRow (dVar 3)) (dOp ixF dRow (dVar 2))) g1 rfl) rfl
      refine (ev_if hc).trans ?_
      rw [if_neg (by decide), if_neg (fun z => h2 z.1)]; exact ev_var s2
def sinkC : Den := dAnd (dOp (isF true) (dVar 3) (dCst .non)) (dOp ltF (dOp ixF dRow (dVar 3)) (dVar 1))
def sinkB : SDen := dSeq (dAsgG (dOp ixF dRow (dVar 3)) (gSb dRow (dVar 2))) (dPar [2, 3] (dCons (dVar 3) (dCons (dMeth f_Queue_lesser_behind [2] 2 1 0 [0, 1] [] (dVar 0) (dCons (dVar 3) dNil) dNil) dNil)))
abbrev sv (n : Nat) (e : En) (a : Nat) (b : Option Nat) : Ev := [some (.loc n), some e.w, some (.int (a : Nat)), some (W.ofO b)]
theorem h_self {h : AH} {m : Nat} {o : AO} (e : h[m]? = some o) : h.set m o = h := by
  apply List.ext_getElem?
  intro i
  rw [h_set]
  split
  · rename_i z; subst z; rw [e, if_pos (List.getElem?_eq_some_iff.mp e).1]
  · rfl
theorem sink_loop {n m : Nat} {e : En} : ∀ (f a : Nat) (l : List En) (h : AH), a < l.length → l.length ≤ a + f → QAt h n m l → ∃ (a' : Nat) (l' : List En) (b' : Option Nat) (h' : AH), whW sinkC sinkB (f + 1) (sv n e a (lesser l a)) h = .nx (sv n e a' b') h' ∧
    a' < l'.length ∧ l'.set a' e = down e f a l ∧ h' = h.set m (.lst (l'.map En.w))
  | 0, a, l, h, hl, hf, Q => by omega
  | f + 1, a, l, h, hl, hf, Q => by
    unfold down
    cases hb : lesser l a with
    | none =>
      have g1 : dOp (isF true) (dVar 3) (dCst .non) (sv n e a none) h = .ok (.bl false) h := ev_op (ev_var rfl) ev_cst rfl
      exact ⟨a, l, none, h, wh_stop (ev_dT (ev_and_f g1 rfl) rfl), hl, rfl, (h_self Q.r).symm⟩
    | some b =>
      obtain ⟨b1, b2, b3⟩ := lesser_some hb
      have g1 : dOp (isF true) (dVar 3) (dCst .non) (sv n e a (some b)) h = .ok (.bl true) h := ev_op (ev_var rfl) ev_cst rfl
      have r3 := row_ix (σ := sv n e a (some b)) (di := dVar 3) (k := b) rfl Q (ev_var rfl) b2
      have g2 := lt_ok (da := dOp ixF dRow (dVar 3)) (db := dVar 1) r3 (ev_var (σ := sv n e a (some b)) (i := 1) (x := e.w) rfl)
      have hc := ev_dT (k := En.lt (g l b) e) ((ev_and_t g1 rfl).trans g2) rfl
      simp only []
      cases q : En.lt (g l b) e with
      | true =>
        rw [q] at hc
        have Q' : QAt (h.set m (.lst ((l.set a (g l b)).map En.w))) n m (l.set a (g l b)) := Q.wr
        have hbd : sinkB (sv n e a (some b)) h = .nx (sv n e b (lesser (l.set a (g l b)) b)) (h.set m (.lst ((l.set a (g l b)).map En.w))) := by
          refine (sv_seq (row_set (σ := sv n e a (some b)) (k := a) rfl Q r3 (ev_var rfl) hl)).trans ?_
          refine (sv_par (ev_cons (ev_var (i := 3) (x := .int (b : Nat)) rfl) (ev_cons ((ev_meth (xs := [.int (b : Nat)]) (ys := []) (ev_var rfl) Q'.q ⟨rfl, rfl⟩ (ev_cons (ev_var rfl) ev_nil) ev_nil ⟨rfl, rfl⟩).trans (lesser_ok Q')) ev_nil)) rfl).trans ?_
          rfl
        obtain ⟨a', l', b', h', e1, e2, e3, e4⟩ := sink_loop f b (l.set a (g l b)) _ (by rw [List.length_set]; exact b2) (by rw [List.length_set]; omega) Q'
        exact ⟨a', l', b', h', (wh_go hc hbd).trans e1, e2, by rw [e3, if_pos rfl], by rw [e4, List.set_set]⟩
      | false =>
        rw [q] at hc
        exact ⟨a, l, some b, h, wh_stop hc, hl, by rw [if_neg (by decide)], (h_self Q.r).symm⟩
theorem sink_ok {n m : Nat} {e : En} {l : List En} {h : AH} (Q : QAt h n m l) (h0 : 0 < l.length) (hz : l.length < 1000000) : f_Queue_sink [.loc n, e.w] h = .ok .non (h.set m (.lst ((down e l.length 0 l).map En.w))) := by
  obtain ⟨a', l', b', h', e1, e2, e3, e4⟩ := sink_loop (n := n) (e := e) l.length 0 l h h0 (by omega) Q
  have Q2 : QAt h' n m l' := by rw [e4]; exact Q.wr
  refine fn_nx (σ := sv n e a' b') ?_
  show b_Queue_sink [some (.loc n), some e.w, none, none] h = _
  refine (sv_seq (sv_par (xs := [.int 0, W.ofO (lesser l 0)]) (ev_cons ev_cst (ev_cons ((ev_meth (xs := [.int ((0 : Nat) : Int)]) (ys := []) (ev_var rfl) Q.q ⟨rfl, rfl⟩ (ev_cons ev_cst ev_nil) ev_nil ⟨rfl, rfl⟩).trans (lesser_ok Q)) ev_nil)) rfl)).trans ?_
  refine (sv_seq (dWhile_of (n := l.length + 1) (by omega) e1 (by intro z; cases z))).trans ?_
  refine (row_set (σ := sv n e a' b') (k := a') rfl Q2 (ev_var rfl) (ev_var rfl) e2).trans ?_
  rw [e3, e4, List.set_set]
/-! first, take, the rest -/
theorem okD_row (l : List En) : okD 60 (.lst (l.map En.w)) = true := by
  show (l.map En.w).all (okD 59) = true
  rw [List.all_eq_true]
  intro x hx
  obtain ⟨e, _, rfl⟩ := List.mem_map.mp hx
  exact w_okD e 58
theorem nil_ok {σ : Ev} {h : AH} {d : Den} {m : Nat} {l : List En} (b : Bool) (hd : d σ h = .ok (.loc m) h) (hm : h[m]? = some (.lst (l.map En.w))) : dOp (eqF b) d (dLst false dNil) σ h = .ok (.bl (if b then !l.isEmpty else l.isEmpty)) h := by
  refine ev_op hd (ev_lstF ev_nil (by decide)) ?_
  have e : eqW 60 (.lst (l.map En.w)) (.lst []) = l.isEmpty := by
    cases l <;> rfl
  unfold eqF
  have v : vw h (.loc m) = .lst (l.map En.w) := by simp only [vw, hm]
  rw [v, show vw h (.lst []) = .lst [] from rfl, if_pos ⟨okD_row l, rfl⟩, e]; rfl
theorem first_ok {n m : Nat} {l : List En} {h : AH} (Q : QAt h n m l) (h0 : 0 < l.length) : f_Queue_first [.loc n] h = .ok (g l 0).w h := by
  refine fn_rt ?_
  show b_Queue_first [some (.loc n)] h = _
  have e : l.isEmpty = false := by cases l <;> first | rfl | (simp at h0)
  have c := ev_dT (nil_ok false (row_ok (σ := [some (.loc n)]) rfl Q) Q.r) rfl
  refine (sv_seq (σ' := [some (.loc n)]) (h1 := h) ((sv_if c).trans ?_)).trans ?_
  · rw [if_neg (by simp [e])]; rfl
  · exact sv_ret (row_ix (k := 0) rfl Q ev_cst h0)
theorem first_ex {n m : Nat} {h : AH} (Q : QAt h n m []) : f_Queue_first [.loc n] h = .ex 1 [(0, .str [101, 109, 112, 116, 121])] h := by
  refine fn_ex (σ := [some (.loc n)]) ?_
  show b_Queue_first [some (.loc n)] h = _
  have c := ev_dT (nil_ok false (row_ok (σ := [some (.loc n)]) rfl Q) Q.r) rfl
  refine sv_seq_ex ((sv_if c).trans ?_)
  rw [if_pos (by rfl)]; rfl
def tk (l : List En) : List En := if l.length = 1 then [] else down (g l (l.length - 1)) (l.length - 1) 0 l.dropLast
theorem take_ok {n m : Nat} {l : List En} {h : AH} (Q : QAt h n m l) (h0 : 0 < l.length) (hz : l.length < 1000000) : f_Queue_take [.loc n] h = .ok (g l 0).w (h.set m (.lst ((tk l).map En.w))) := by
  refine fn_rt ?_
  show b_Queue_take [some (.loc n), none, none] h = _
  have Q1 : QAt (h.set m (.lst ((l.dropLast).map En.w))) n m l.dropLast := Q.wr
  refine (sv_seq (sv_set ((ev_meth (xs := []) (ys := []) (ev_var rfl) Q.q ⟨rfl, rfl⟩ ev_nil ev_nil ⟨rfl, rfl⟩).trans (first_ok Q h0)))).trans ?_
  have pop : dMtL popF dRow dNil [some (.loc n), some (g l 0).w, none] h = .ok (g l (l.length - 1)).w (h.set m (.lst ((l.dropLast).map En.w))) := by
    refine ev_mt (row_ok rfl Q) (by simp only [isLst, lstOf, Q.r]) ev_nil ?_
    have : (l.map En.w)[(l.map En.w).length - 1]? = some (g l (l.length - 1)).w := by
      rw [List.length_map, List.getElem?_map, g_at (by omega)]; rfl
    simp only [popF, Q.r, this, wrL, List.map_dropLast]
  refine (sv_seq (sv_set pop)).trans ?_
  show dSeq _ _ [some (.loc n), some (g l 0).w, some (g l (l.length - 1)).w] _ = _
  have c := ev_dT (nil_ok true (row_ok (σ := [some (.loc n), some (g l 0).w, some (g l (l.length - 1)).w]) rfl Q1) Q1.r) rfl
  have dl : l.dropLast.length = l.length - 1 := List.length_dropLast
  unfold tk
  by_cases h1 : l.length = 1
  · have e : l.dropLast = [] := List.eq_nil_of_length_eq_zero (by omega)
    refine (sv_seq (σ' := [some (.loc n), some (g l 0).w, some (g l (l.length - 1)).w]) (h1 := h.set m (.lst ((l.dropLast).map En.w))) ((sv_if c).trans ?_)).trans ?_
    · rw [if_neg (by rw [e]; decide)]; rfl
    · rw [if_pos h1, e]; exact sv_ret (ev_var rfl)
  · have e : l.dropLast.isEmpty = false := by
      cases q : l.dropLast with
      | nil => rw [q] at dl; simp at dl; omega
      | cons _ _ => rfl
    refine (sv_seq (σ' := [some (.loc n), some (g l 0).w, some (g l (l.length - 1)).w]) (h1 := h.set m (.lst ((down (g l (l.length - 1)) (l.length - 1) 0 l.dropLast).map En.w))) ((sv_if c).trans ?_)).trans ?_
    · rw [if_pos (by rw [e]; decide)]
      refine sv_drop (x := .non) ((ev_meth (xs := [(g l (l.length - 1)).w]) (ys := []) (ev_var rfl) Q1.q ⟨rfl, rfl⟩ (ev_cons (ev_var rfl) ev_nil) ev_nil ⟨rfl, rfl⟩).trans ?_)
      show f_Queue_sink [.loc n, (g l (l.length - 1)).w] _ = _
      rw [sink_ok Q1 (by omega) (by omega), List.set_set, dl]
    · rw [if_neg h1]; exact sv_ret (ev_var rfl)
theorem many_ok {n m : Nat} {l : List En} {h : AH} (Q : QAt h n m l) : f_Queue_how_many [.loc n] h = .ok (.int (l.length : Nat)) h := fn_rt (sv_ret (row_len rfl Q))
def srt (l : List En) : List En := l.mergeSort En.le
theorem sort_map (l : List En) : sortW (l.map En.w) = (srt l).map En.w := by
  unfold sortW srt
  rw [List.map_mergeSort]
  intro a _ b _
  unfold leW; rw [w_lt]; rfl
theorem sortOk_map (l : List En) : sortOk (l.map En.w) = true := by
  unfold sortOk
  simp only [Bool.and_eq_true, Bool.or_eq_true, List.all_eq_true]
  refine ⟨⟨fun x hx => ?_, fun x hx y hy => ?_⟩, .inl fun x hx => ?_⟩
  · obtain ⟨e, _, rfl⟩ := List.mem_map.mp hx; exact w_okD e 59
  · obtain ⟨e, _, rfl⟩ := List.mem_map.mp hx
    obtain ⟨f, _, rfl⟩ := List.mem_map.mp hy
    simp [En.w, toD, PySem.W.alike, PySem.W.alikeAll]
  · obtain ⟨e, _, rfl⟩ := List.mem_map.mp hx; rfl
theorem sort_loc {σ : Ev} {h : AH} {d : Den} {m : Nat} {l : List En} (hd : d σ h = .ok (.loc m) h) (hm : h[m]? = some (.lst (l.map En.w))) : dCl (sortF false) (dCons d dNil) σ h = .ok (.lst ((srt l).map En.w)) h := by
  refine ev_cl1 hd ?_
  simp only [sortF, seqOf, lstOf, hm]
  rw [if_pos (sortOk_map l), sort_map]; rfl
theorem listed_ok {n m : Nat} {l : List En} {h : AH} (Q : QAt h n m l) : f_Queue_listed [.loc n] h = .ok (.tup ((srt l).map En.w)) h := by
  refine fn_rt (sv_ret (ev_cl1 (sort_loc (row_ok rfl Q) Q.r) ?_))
  rfl
/-! what the row then holds -/
theorem srt_pw (l : List En) : (srt l).Pairwise fun a b => En.le a b = true := List.pairwise_mergeSort (le := En.le) (fun _ _ _ => En.le_trans) En.le_total l
theorem srt_perm {l l' : List En} (h : l.Perm l') : srt l = srt l' :=
  List.Perm.eq_of_pairwise (le := fun a b => En.le a b = true) (fun a b _ _ => En.le_anti) (srt_pw l) (srt_pw l')
    ((List.mergeSort_perm l _).trans (h.trans (List.mergeSort_perm l' _).symm))
theorem put_heap {l : List En} (e : En) (H : HeapL l) : HeapL (up e l.length (l ++ [e])) ∧ (up e l.length (l ++ [e])).Perm (l ++ [e]) := by
  have hl : l.length < (l ++ [e]).length := by simp
  have self : (l ++ [e]).set l.length e = l ++ [e] := by
    rw [List.set_append_right _ _ (Nat.le_refl _)]; simp
  have gl : ∀ i, i < l.length → g (l ++ [e]) i = g l i := fun i hi => by
    unfold g; rw [List.getD_eq_getElem?_getD, List.getD_eq_getElem?_getD, List.getElem?_append_left hi]
  refine ⟨up_heap e _ _ hl (fun i i0 il ne => ?_) (fun i a0 i0 il hi => ?_), by have := up_perm e _ _ hl; rwa [self] at this⟩
  · rw [self]
    have : i < l.length := by simp at il; omega
    rw [gl _ (by omega), gl i this]
    exact H i i0 this
  · simp at il; omega
theorem tk_heap {l : List En} (H : HeapL l) (h0 : 0 < l.length) : HeapL (tk l) ∧ l.Perm (g l 0 :: tk l) := by
  unfold tk
  by_cases h1 : l.length = 1
  · rw [if_pos h1]
    match l, h1 with
    | [x], _ => exact ⟨fun i i0 il => by simp at il, .refl _⟩
  · rw [if_neg h1]
    have dl : l.dropLast.length = l.length - 1 := List.length_dropLast
    have gd : ∀ i, i < l.length - 1 → g l.dropLast i = g l i := fun i hi => by
      unfold g; rw [List.getD_eq_getElem?_getD, List.getD_eq_getElem?_getD, List.getElem?_dropLast, if_pos hi]
    refine ⟨down_heap _ _ 0 _ (by omega) (by omega) (fun i i0 il q => ?_) (fun i a0 => by omega), ?_⟩
    · rw [g_set (by omega), g_set (by omega), if_neg (by omega), if_neg (by omega), gd _ (by omega), gd _ (by omega)]
      exact H i i0 (by omega)
    · refine .trans ?_ (List.Perm.cons _ (down_perm _ _ 0 _ (by omega)).symm)
      match l, h0, h1 with
      | x :: y :: t, _, _ =>
        have : (x :: y :: t).dropLast.set 0 (g (x :: y :: t) ((x :: y :: t).length - 1)) = g (x :: y :: t) ((x :: y :: t).length - 1) :: (y :: t).dropLast := rfl
        rw [this]
        refine List.Perm.cons _ ?_
        have e : g (x :: y :: t) ((x :: y :: t).length - 1) = (y :: t).getLast (by simp) := by
          unfold g
          rw [List.getLast_eq_getElem, List.getD_eq_getElem?_getD, List.getElem?_eq_getElem (by simp)]
          simp
        rw [e]
        have : (y :: t).dropLast ++ [(y :: t).getLast (by simp)] = y :: t := List.dropLast_concat_getLast (by simp)
        conv => lhs; rw [← this]
        exact List.perm_append_singleton _ _
theorem tk_srt {l : List En} (H : HeapL l) (h0 : 0 < l.length) : srt l = g l 0 :: srt (tk l) := by
  obtain ⟨_, p⟩ := tk_heap H h0
  rw [srt_perm p]
  refine List.Perm.eq_of_pairwise (le := fun a b => En.le a b = true) (fun a b _ _ => En.le_anti) (srt_pw _) (List.pairwise_cons.mpr ⟨fun x hx => ?_, srt_pw _⟩)
    ((List.mergeSort_perm _ _).trans (List.Perm.cons _ (List.mergeSort_perm _ _).symm))
  have hx : x ∈ l := p.symm.subset (List.mem_cons_of_mem _ ((List.mergeSort_perm _ _).subset hx))
  obtain ⟨i, hi, rfl⟩ := List.getElem_of_mem hx
  rw [← g_eq hi]
  exact root_le H i hi
end K31
set_option Elab.async false
set_option linter.all false
set_option maxRecDepth 100000
set_option maxHeartbeats 1000000
/-! Queues, part 4: the drawing of numbers. -/
namespace K31
open Dn
structure DAt (h : AH) (cs : List Int) (st : Int) : Prop where
  c : h[0]? = some (.lst (cs.map W.int))
  s : h[1]? = some (.lst [.loc 0, .int st])
  z : cs.length ≤ 1000
/-- the drawing leaves all but its own two lists -/
structure Stp (h h' : AH) : Prop where
  d : ∃ cs st, DAt h' cs st
  l : h'.length = h.length
  k : ∀ i, 2 ≤ i → h'[i]? = h[i]?
theorem Stp.trans {a b c : AH} (x : Stp a b) (y : Stp b c) : Stp a c := ⟨y.d, y.l.trans x.l, fun i hi => (y.k i hi).trans (x.k i hi)⟩
theorem DAt.wr {h : AH} {cs cs' : List Int} {st : Int} (D : DAt h cs st) (hz : cs'.length ≤ 1000) : DAt (h.set 0 (.lst (cs'.map W.int))) cs' st :=
  ⟨by rw [h_set, if_pos rfl, if_pos (List.getElem?_eq_some_iff.mp D.c).1], by rw [h_set, if_neg (by decide)]; exact D.s, hz⟩
theorem stp_set {h : AH} {o : AO} {cs : List Int} {st : Int} (i : Nat) (hi : i < 2) (D : DAt (h.set i o) cs st) : Stp h (h.set i o) := ⟨⟨_, _, D⟩, List.length_set, fun j hj => by rw [h_set, if_neg (by omega)]⟩
theorem stp_refl {h : AH} {cs : List Int} {st : Int} (D : DAt h cs st) : Stp h h := ⟨⟨_, _, D⟩, rfl, fun _ _ => rfl⟩
abbrev dH0 : Den := dOp ixF (dVar 0) (dCst (.int 0))
section
variable {σ : Ev} {h : AH} {cs : List Int} {st : Int}
theorem h0_ok (hs : σ[0]? = some (some (.loc 1))) (D : DAt h cs st) : dH0 σ h = .ok (.loc 0) h := by
  refine ev_op (ev_var hs) ev_cst ?_
  simp only [ixF, seqOf, lstOf, D.s]; rfl
theorem h1_ok (hs : σ[0]? = some (some (.loc 1))) (D : DAt h cs st) : dOp ixF (dVar 0) (dCst (.int 1)) σ h = .ok (.int st) h := by
  refine ev_op (ev_var hs) ev_cst ?_
  simp only [ixF, seqOf, lstOf, D.s]; rfl
theorem ints_okD (cs : List Int) : okD 60 (.lst (cs.map W.int)) = true := by
  show (cs.map W.int).all (okD 59) = true
  rw [List.all_eq_true]
  intro x hx
  obtain ⟨e, _, rfl⟩ := List.mem_map.mp hx
  rfl
theorem some_left (hs : σ[0]? = some (some (.loc 1))) (D : DAt h cs st) : dOp (eqF true) dH0 (dLst false dNil) σ h = .ok (.bl (!cs.isEmpty)) h := by
  refine ev_op (h0_ok hs D) (ev_lstF ev_nil (by decide)) ?_
  have e : eqW 60 (.lst (cs.map W.int)) (.lst []) = cs.isEmpty := by cases cs <;> rfl
  unfold eqF
  have v : vw h (.loc 0) = .lst (cs.map W.int) := by simp only [vw, D.c]
  rw [v, show vw h (.lst []) = .lst [] from rfl, if_pos ⟨ints_okD cs, rfl⟩, e]; rfl
theorem last_zero (hs : σ[0]? = some (some (.loc 1))) (D : DAt h cs st) (h0 : 0 < cs.length) : ∃ b, dOp (eqF false) (dOp ixF dH0 (dUn negF (dCst (.int 1)))) (dCst (.int 0)) σ h = .ok (.bl b) h := by
  have e : L2.atI (cs.map W.int) (-1) = some (.int cs[cs.length - 1]) := by
    unfold L2.atI L2.ixN
    rw [if_neg (by decide), if_pos (by rw [List.length_map]; omega), List.length_map]
    have : (-1 + (cs.length : Int)).toNat = cs.length - 1 := by omega
    rw [this]
    simp only [Option.bind_some]
    rw [List.getElem?_map, List.getElem?_eq_getElem (by omega)]; rfl
  refine ⟨(cs[cs.length - 1] == 0), ev_op0 (x := .int cs[cs.length - 1]) (ev_op0 (h0_ok hs D) (ev_un ev_cst rfl) ?_) ev_cst ?_⟩
  · simp only [ixF, seqOf, lstOf, D.c]
    rw [e]; rfl
  · rfl
theorem pop_ok (hs : σ[0]? = some (some (.loc 1))) (D : DAt h cs st) (h0 : 0 < cs.length) : dMtL popF dH0 dNil σ h = .ok (.int cs[cs.length - 1]) (h.set 0 (.lst (cs.dropLast.map W.int))) := by
  refine ev_mt (h0_ok hs D) (by simp only [isLst, lstOf, D.c]) ev_nil ?_
  have : (cs.map W.int)[(cs.map W.int).length - 1]? = some (.int cs[cs.length - 1]) := by
    rw [List.length_map, List.getElem?_map, List.getElem?_eq_getElem (by omega)]; rfl
  simp only [popF, D.c, this, wrL, List.map_dropLast]
end
def drC : Den := dAnd (dOp (eqF true) dH0 (dLst false dNil)) (dOp (eqF false) (dOp ixF dH0 (dUn negF (dCst (.int 1)))) (dCst (.int 0)))
def drB : SDen := dDrop (dMtL popF dH0 dNil)
theorem draw_loop {σ : Ev} {st : Int} (hs : σ[0]? = some (some (.loc 1))) : ∀ (n : Nat) (cs : List Int) (h : AH), cs.length = n → DAt h cs st → ∃ cs' h', whW drC drB (n + 1) σ h = .nx σ h' ∧ DAt h' cs' st ∧ Stp h h' := by
  intro n
  induction n with
  | zero =>
    intro cs h hl D
    obtain rfl : cs = [] := List.eq_nil_of_length_eq_zero hl
    exact ⟨[], h, wh_stop (ev_dT (ev_and_f (some_left hs D) rfl) rfl), D, stp_refl D⟩
  | succ n ih =>
    intro cs h hl D
    have ne : cs.isEmpty = false := by cases cs <;> first | rfl | (simp at hl)
    obtain ⟨b, hb⟩ := last_zero hs D (by omega)
    have hc := ev_dT (k := b) ((ev_and_t (some_left hs D) (by rw [ne]; rfl)).trans hb) rfl
    cases b with
    | false => exact ⟨cs, h, wh_stop hc, D, stp_refl D⟩
    | true =>
      have D' : DAt (h.set 0 (.lst (cs.dropLast.map W.int))) cs.dropLast st := D.wr (by rw [List.length_dropLast]; have := D.z; omega)
      obtain ⟨cs', h', e1, e2, e3⟩ := ih cs.dropLast _ (by rw [List.length_dropLast]; omega) D'
      exact ⟨cs', h', (wh_go hc (sv_drop (pop_ok hs D (by omega)))).trans e1, e2, (stp_set 0 (by decide) D').trans e3⟩
theorem mod_ok {σ : Ev} {h h1 : AH} {d : Den} {i m : Int} {j : Nat} (hm : σ[j]? = some (some (.int m))) (h0 : 0 < m) (hd : d σ h = .ok (.int i) h1) : dOp modF (dCl intF (dCons d dNil)) (dVar j) σ h = .ok (.int (i.fmod m)) h1 := by
  refine ev_op (ev_cl1 hd rfl) (ev_var hm) ?_
  simp only [modF, opIc]
  rw [if_pos (by simp; omega)]; rfl
theorem draw_ok {h : AH} {cs : List Int} {st m : Int} (D : DAt h cs st) (h0 : 0 < m) (h1 : m < 1073741824) : ∃ k h', f__law_draw [.loc 1, .int m] h = .ok (.int k) h' ∧ 0 ≤ k ∧ k < m ∧ Stp h h' := by
  obtain ⟨cs1, g1, e1, D1, S1⟩ := draw_loop (σ := [some (.loc 1), some (.int m), none]) rfl cs.length cs h rfl D
  have w1 := dWhile_of (by have := D.z; omega) e1 (by intro z; cases z)
  by_cases hc : 0 < cs1.length
  · have ne : cs1.isEmpty = false := by cases cs1 <;> first | rfl | (simp at hc)
    have c := ev_dT (some_left (σ := [some (.loc 1), some (.int m), none]) rfl D1) (k := true) (by rw [ne]; rfl)
    have D2 : DAt (g1.set 0 (.lst (cs1.dropLast.map W.int))) cs1.dropLast st := D1.wr (by rw [List.length_dropLast]; have := D1.z; omega)
    have D3 : DAt (g1.set 0 (.lst ((cs1.dropLast ++ [cs1[cs1.length - 1].fdiv m]).map W.int))) (cs1.dropLast ++ [cs1[cs1.length - 1].fdiv m]) st := D1.wr (by rw [List.length_append, List.length_dropLast]; have := D1.z; simp; omega)
    refine ⟨cs1[cs1.length - 1].fmod m, _, fn_rt (h1 := g1.set 0 (.lst ((cs1.dropLast ++ [cs1[cs1.length - 1].fdiv m]).map W.int))) ?_, Int.fmod_nonneg_of_pos _ h0, Int.fmod_lt_of_pos _ h0, S1.trans (stp_set 0 (by decide) D3)⟩
    refine (sv_seq w1).trans (sv_seq_rt ((sv_if c).trans ?_))
    rw [if_pos rfl]
    refine (sv_seq (sv_set (pop_ok (σ := [some (.loc 1), some (.int m), none]) rfl D1 hc))).trans ?_
    have ap : dMtL appF dH0 (dCons (dOp fdivF (dVar 2) (dVar 1)) dNil) [some (.loc 1), some (.int m), some (.int cs1[cs1.length - 1])] (g1.set 0 (.lst (cs1.dropLast.map W.int))) = .ok .non (g1.set 0 (.lst ((cs1.dropLast ++ [cs1[cs1.length - 1].fdiv m]).map W.int))) := by
      refine ev_mt (h0_ok (σ := [some (.loc 1), some (.int m), some (.int cs1[cs1.length - 1])]) rfl D2) (by simp only [isLst, lstOf, D2.c]) (ev_cons (ev_op0 (z := .int (cs1[cs1.length - 1].fdiv m)) (ev_var (i := 2) rfl) (ev_var (i := 1) rfl) ?_) ev_nil) ?_
      · simp only [fdivF, opIc]
        rw [if_pos (by simp; omega)]; rfl
      · simp only [appF, D2.c]
        rw [if_pos (by rw [List.length_map, List.length_dropLast]; have := D1.z; exact mil (by omega)), wrL, List.set_set, List.map_append]; rfl
    refine (sv_seq (sv_drop ap)).trans (sv_ret (mod_ok (j := 1) rfl h0 (ev_var (i := 2) rfl)))
  · have ne : cs1 = [] := List.eq_nil_of_length_eq_zero (by omega)
    subst ne
    have c := ev_dT (some_left (σ := [some (.loc 1), some (.int m), none]) rfl D1) (k := false) rfl
    have D4 : ∀ s' : Int, DAt (g1.set 1 (.lst [.loc 0, .int s'])) [] s' := fun s' => ⟨by rw [h_set, if_neg (by decide)]; exact D1.c, by rw [h_set, if_pos rfl, if_pos (List.getElem?_eq_some_iff.mp D1.s).1], by simp⟩
    refine ⟨(((st * 48271 + 11).fmod 2147483647).fdiv 64).fmod m, _, fn_rt (h1 := g1.set 1 (.lst [.loc 0, .int ((st * 48271 + 11).fmod 2147483647)])) ?_, Int.fmod_nonneg_of_pos _ h0, Int.fmod_lt_of_pos _ h0, S1.trans (stp_set 1 (by decide) (D4 _))⟩
    refine (sv_seq w1).trans ((sv_seq (σ' := [some (.loc 1), some (.int m), none]) (h1 := g1) ((sv_if c).trans ?_)).trans ?_)
    · rw [if_neg (by decide)]; rfl
    have e0 : dOp modF (dCl intF (dCons (dOp (addF false) (dOp mulF (dOp ixF (dVar 0) (dCst (.int 1))) (dCst (.int 48271))) (dCst (.int 11))) dNil)) (dCst (.int 2147483647)) [some (.loc 1), some (.int m), none] g1 = .ok (.int ((st * 48271 + 11).fmod 2147483647)) g1 := by
      refine ev_op (ev_cl1 (ev_op0 (z := .int (st * 48271 + 11)) (ev_op0 (z := .int (st * 48271)) (h1_ok rfl D1) ev_cst ?_) ev_cst rfl) rfl) ev_cst rfl
      simp [mulF, opIc, ret]
    refine (sv_seq (sv_setI (h4 := g1.set 1 (.lst [.loc 0, .int ((st * 48271 + 11).fmod 2147483647)])) e0 (ev_var rfl) ev_cst ?_)).trans ?_
    · simp only [setF, D1.s]; rfl
    · exact sv_ret (mod_ok (j := 1) rfl h0 (ev_op (h1_ok rfl (D4 _)) ev_cst rfl))
end K31
set_option Elab.async false
set_option linter.all false
set_option maxRecDepth 100000
set_option maxHeartbeats 1000000
/-! Queues, part 5: entries drawn, the start. -/
namespace K31
open Dn PySem
def DA (h : AH) : Prop := ∃ cs st, DAt h cs st
theorem dr_ok {σ : Ev} {h : AH} {dm : Den} {m : Int} (hs : σ[0]? = some (some (.loc 1))) (D : DA h) (hd : dm σ h = .ok (.int m) h) (h0 : 0 < m) (h1 : m < 1073741824) :
    ∃ k h', dCall f__law_draw 2 0 [0, 1] [] (dCons (dVar 0) (dCons dm dNil)) dNil σ h = .ok (.int k) h' ∧ 0 ≤ k ∧ k < m ∧ Stp h h' := by
  obtain ⟨cs, st, D⟩ := D
  obtain ⟨k, h', e, k0, k1, S⟩ := draw_ok D h0 h1
  exact ⟨k, h', (ev_call (ev_cons (ev_var hs) (ev_cons hd ev_nil)) ev_nil ⟨rfl, rfl⟩).trans e, k0, k1, S⟩
theorem pick_ok {h : AH} {xs : List W} (D : DA h) (h0 : 0 < xs.length) (h1 : xs.length < 1000000) : ∃ x h', f__law_pick [.loc 1, .lst xs] h = .ok x h' ∧ x ∈ xs ∧ Stp h h' := by
  obtain ⟨k, h', e, k0, k1, S⟩ := dr_ok (σ := [some (.loc 1), some (.lst xs)]) (dm := dCl lenF (dCons (dVar 1) dNil)) (m := (xs.length : Nat)) rfl D (ev_cl1 (ev_var (i := 1) rfl) rfl) (by omega) (by omega)
  obtain ⟨j, rfl⟩ := Int.eq_ofNat_of_zero_le k0
  have hj : j < xs.length := by omega
  refine ⟨xs[j], h', fn_rt (sv_ret (ev_op (ev_var (i := 1) rfl) e ?_)), List.getElem_mem hj, S⟩
  simp only [ixF, seqOf, lstOf]
  rw [at_nat (List.getElem?_eq_getElem hj)]; rfl
theorem pk_ok {σ : Ev} {h h1 : AH} {ds : Den} {xs : List W} (hs : σ[0]? = some (some (.loc 1))) (D : DA h1) (hd : ds σ h = .ok (.lst xs) h1) (h0 : 0 < xs.length) (hz : xs.length < 1000000) :
    ∃ x h', dCall f__law_pick 2 0 [0, 1] [] (dCons (dVar 0) (dCons ds dNil)) dNil σ h = .ok x h' ∧ x ∈ xs ∧ Stp h1 h' := by
  obtain ⟨x, h', e, m, S⟩ := pick_ok D h0 hz
  exact ⟨x, h', (ev_call (ev_cons (ev_var hs) (ev_cons hd ev_nil)) ev_nil ⟨rfl, rfl⟩).trans e, m, S⟩
theorem entry_ok {h : AH} (D : DA h) : ∃ (e : En) (h' : AH), f__law_entry [.loc 1] h = .ok e.w h' ∧ Stp h h' := by
  obtain ⟨k1, g1, e1, _, _, S1⟩ := dr_ok (σ := [some (.loc 1), none]) (dm := dCst (.int 4)) rfl D ev_cst (by decide) (by decide)
  obtain ⟨k2, g2, e2, _, _, S2⟩ := dr_ok (σ := [some (.loc 1), none]) (dm := dCst (.int 4)) rfl S1.d ev_cst (by decide) (by decide)
  obtain ⟨k3, g3, e3, _, _, S3⟩ := dr_ok (σ := [some (.loc 1), none]) (dm := dCst (.int 10)) rfl S2.d ev_cst (by decide) (by decide)
  obtain ⟨k4, g4, e4, _, _, S4⟩ := dr_ok (σ := [some (.loc 1), none]) (dm := dOp powF (dCst (.int 10)) (dCst (.int 9))) (m := 1000000000) rfl S3.d (ev_op0 ev_cst ev_cst rfl) (by decide) (by decide)
  obtain ⟨x5, g5, e5, m5, S5⟩ := pk_ok (σ := [some (.loc 1), none]) rfl S4.d (ev_lstF (ev_cons e1 (ev_cons e2 (ev_cons (ev_un (f := negF) (z := .int (-k3)) e3 rfl) (ev_cons e4 ev_nil)))) (by show 4 ≤ 1000; decide)) (by show 0 < 4; decide) (by show 4 < 1000000; decide)
  obtain ⟨i, rfl⟩ : ∃ i, x5 = .int i := by
    simp only [List.mem_cons, List.not_mem_nil, or_false] at m5
    rcases m5 with rfl | rfl | rfl | rfl <;> exact ⟨_, rfl⟩
  have S05 := S1.trans (S2.trans (S3.trans (S4.trans S5)))
  obtain ⟨x6, g6, e6, m6, S6⟩ := pk_ok (σ := [some (.loc 1), some (.int i)]) (ds := dLst false (dCons (dCst (.str [108, 111, 116])) (dCons (dCst (.str [112, 97, 105, 114])) dNil))) rfl S5.d (ev_lstF (ev_cons ev_cst (ev_cons ev_cst ev_nil)) (by decide)) (by decide) (by decide)
  obtain ⟨k7, g7, e7, _, _, S7⟩ := dr_ok (σ := [some (.loc 1), some (.int i)]) (dm := dCst (.int 3)) rfl S6.d ev_cst (by decide) (by decide)
  obtain ⟨p, rfl⟩ : ∃ p, x6 = .str (kindL p) := by
    simp only [List.mem_cons, List.not_mem_nil, or_false] at m6
    rcases m6 with rfl | rfl
    · exact ⟨false, rfl⟩
    · exact ⟨true, rfl⟩
  refine ⟨⟨i, p, k7⟩, g7, fn_rt ?_, S05.trans (S6.trans S7)⟩
  refine (sv_seq (sv_set e5)).trans (sv_ret ?_)
  exact ev_tup (ev_cons (ev_var rfl) (ev_cons e6 (ev_cons e7 ev_nil))) (by show 3 ≤ 1000; decide)
theorem heap_ok (ns : List Int) : ∃ (cs : List Int) (st : Int), f__law_heap [.lst (ns.map W.int)] [] = .ok (.loc 1) [.lst (cs.map W.int), .lst [.loc 0, .int st]] ∧ cs.length ≤ 1000 := by
  have cut : dSl false (dVar 0) (dPart none) (dPart (some (dCst (.int 60)))) [some (.lst (ns.map W.int)), none, none, none] [] = .ok (.lst ((ns.take 60).map W.int)) [] := by
    have : cutA (ns.map W.int) none (some 60) = (ns.take 60).map W.int := by
      unfold cutA
      have e1 : HT.sIx (ns.map W.int).length 0 none = 0 := by simp [HT.sIx]
      have e2 : HT.sIx (ns.map W.int).length (ns.map W.int).length (some 60) = min 60 ns.length := by
        exact (HT.sIx_nat _ _ 60).trans (by rw [List.length_map])
      rw [e1, e2, List.drop_zero, Nat.sub_zero, ← List.map_take]
      congr 1
      rw [Nat.min_comm, List.take_eq_take_min (i := 60)]
      simp [Nat.min_comm]
    unfold dSl
    rw [ev_var (x := .lst (ns.map W.int)) rfl]
    simp only [R.andThen, dPart, dCst]
    show R.opt (slF false none (some 60) (.lst (ns.map W.int)) []) = _
    simp only [slF, lstOf, newL, this]; rfl
  obtain ⟨acc, h', e1, ⟨cs, rfl, hl⟩, rfl⟩ := ev_lc (m := false) (src := dSq (dSl false (dVar 0) (dPart none) (dPart (some (dCst (.int 60)))))) (tg := .one 1) (vs := [1]) (c := none) (e := dCl absF (dCons (dVar 1) dNil)) (σ := [some (.lst (ns.map W.int)), none, none, none]) (h := [])
    (fun i acc h => (∃ cs : List Int, acc = cs.map W.int ∧ cs.length = i) ∧ h = []) (sq_lst cut) ⟨⟨[], rfl, rfl⟩, rfl⟩ (fun i x acc h hx ⟨⟨cs, ha, hl⟩, hh⟩ => by
      subst ha hh
      rw [List.getElem?_map] at hx
      cases q : (ns.take 60)[i]? with
      | none => rw [q] at hx; cases hx
      | some k =>
        rw [q] at hx
        obtain rfl := Option.some.inj hx
        have hi : i < 60 := by have := (List.getElem?_eq_some_iff.mp q).1; rw [List.length_take] at this; omega
        refine ⟨(cs ++ [if k < 0 then -k else k]).map W.int, [], ?_, ⟨_, rfl, by rw [List.length_append, hl]; rfl⟩, rfl⟩
        rw [turn_one (y := .int (if k < 0 then -k else k)) (h1 := []) (ev_cl1 (ev_var rfl) rfl) (by rw [List.length_map]; omega), List.map_append]; rfl)
  rw [List.length_map] at hl
  have hl60 : cs.length ≤ 60 := by rw [hl, List.length_take]; omega
  -- the stirring
  obtain ⟨σ2, h2, e2, ⟨c2, st, rfl⟩, rfl⟩ := for_ok (d := dSq (dVar 2)) (g := gN 1) (b := dSet 3 (dOp modF (dCl intF (dCons (dOp (addF false) (dOp (addF false) (dOp mulF (dVar 3) (dCst (.int 40692))) (dOp modF (dCl intF (dCons (dVar 1) dNil)) (dCst (.int 2147483543)))) (dCst (.int 31))) dNil)) (dCst (.int 2147483647))))
    (σ := [some (.lst (ns.map W.int)), none, some (.lst (cs.map W.int)), some (.int 8011)]) (h := [])
    (fun i σ h => (∃ (c : Option W) (st : Int), σ = [some (.lst (ns.map W.int)), c, some (.lst (cs.map W.int)), some (.int st)]) ∧ h = []) (sq_lst (ev_var rfl)) ⟨⟨none, 8011, rfl⟩, rfl⟩ (fun i x σ h hx ⟨⟨c, st, hs⟩, hh⟩ => by
      subst hs hh
      rw [List.getElem?_map] at hx
      cases q : cs[i]? with
      | none => rw [q] at hx; cases hx
      | some k =>
        rw [q] at hx
        obtain rfl := Option.some.inj hx
        refine ⟨_, _, _, [], rfl, sv_set (x := .int ((st * 40692 + k.fmod 2147483543 + 31).fmod 2147483647)) ?_, ⟨_, _, rfl⟩, rfl⟩
        refine ev_op0 (ev_cl1 (ev_op0 (z := .int (st * 40692 + k.fmod 2147483543 + 31)) (ev_op0 (z := .int (st * 40692 + k.fmod 2147483543)) (ev_op0 (z := .int (st * 40692)) (ev_var rfl) ev_cst ?_) (ev_op0 (z := .int (k.fmod 2147483543)) (ev_cl1 (ev_var rfl) rfl) ev_cst rfl) rfl) ev_cst rfl) rfl) ev_cst rfl
        simp [mulF, opIc, Dn.ret])
  -- the numbers kept
  obtain ⟨acc3, h3, e3, ⟨ks, rfl, hk⟩, rfl⟩ := ev_lc (m := false) (src := dSq (dVar 2)) (tg := .one 1) (vs := [1]) (c := some (dOp geF (dVar 1) (dOp powF (dCst (.int 10)) (dCst (.int 18))))) (e := dVar 1)
    (σ := [some (.lst (ns.map W.int)), c2, some (.lst (cs.map W.int)), some (.int st)]) (h := [])
    (fun i acc h => (∃ ks : List Int, acc = ks.map W.int ∧ ks.length ≤ i) ∧ h = []) (sq_lst (ev_var rfl)) ⟨⟨[], rfl, Nat.le_refl _⟩, rfl⟩ (fun i x acc h hx ⟨⟨ks, ha, hl⟩, hh⟩ => by
      subst ha hh
      rw [List.getElem?_map] at hx
      cases q : cs[i]? with
      | none => rw [q] at hx; cases hx
      | some k =>
        rw [q] at hx
        obtain rfl := Option.some.inj hx
        have hi : i < 60 := by have := (List.getElem?_eq_some_iff.mp q).1; omega
        have tc := turn_if (σ := [some (.lst (ns.map W.int)), c2, some (.lst (cs.map W.int)), some (.int st)]) (x := .int k) (y := .int k) (j := 1) (vs := [1]) (c := dOp geF (dVar 1) (dOp powF (dCst (.int 10)) (dCst (.int 18)))) (e := dVar 1) (acc := ks.map W.int) (h := []) (h1 := []) (h2 := []) (b := decide ((10 : Int) ^ 18 ≤ k))
          (ev_dT (ev_op0 (z := .bl (decide ((10 : Int) ^ 18 ≤ k))) (ev_var rfl) (ev_op0 (z := .int ((10 : Int) ^ 18)) ev_cst ev_cst rfl) rfl) rfl) (fun _ => ev_var rfl) (by rw [List.length_map]; omega)
        by_cases hb : (10 : Int) ^ 18 ≤ k
        · rw [decide_eq_true hb, if_pos rfl] at tc
          exact ⟨_, _, tc, ⟨ks ++ [k], by rw [List.map_append]; rfl, by rw [List.length_append]; simp; omega⟩, rfl⟩
        · rw [decide_eq_false hb, if_neg (by decide)] at tc
          exact ⟨_, _, tc, ⟨ks, rfl, by omega⟩, rfl⟩)
  rw [List.length_map] at hk
  refine ⟨ks.reverse, st, fn_rt ?_, by rw [List.length_reverse]; omega⟩
  refine (sv_seq (sv_par (ev_cons (e1.trans rfl) (ev_cons ev_cst ev_nil)) rfl)).trans ?_
  refine (sv_seq e2).trans (sv_ret ?_)
  refine (ev_lstT (ev_cons (ev_un (f := revF true) (z := .loc 0) (h2 := [.lst (ks.reverse.map W.int)]) (e3.trans rfl) ?_) (ev_cons (ev_var rfl) ev_nil)) (by show 2 ≤ 1000; decide)).trans rfl
  simp [revF, lstOf, newL]
end K31
set_option Elab.async false
set_option linter.all false
set_option maxRecDepth 100000
set_option maxHeartbeats 1000000
/-! Queues, part 6: all taken; the least asked for. -/
namespace K31
open Dn PySem
theorem lt_int {σ : Ev} {h h1 h2 : AH} {da db : Den} {i j : Int} (ha : da σ h = .ok (.int i) h1) (hb : db σ h1 = .ok (.int j) h2) : dOp ltF da db σ h = .ok (.bl (decide (i < j))) h2 := by
  refine ev_op ha hb ?_
  have al : alikeW (.int i) (.int j) = true := by simp [alikeW, okD, toD, PySem.W.alike]
  unfold ltF
  rw [if_pos al]
  simp only [Dn.ret, ltW, toD, PySem.W.dataLt, PySem.W.keyToks, PyProof.Rows.lexLt, PyProof.Rows.itemLt, Bool.and_false, Bool.or_false]
theorem sv_set_ex {σ : Ev} {h h1 : AH} {d : Den} {i c : Nat} {fs : List (Nat × W)} (e : d σ h = .ex c fs h1) : dSet i d σ h = .ex c fs σ h1 := by unfold dSet; rw [e]; rfl
theorem take_ex {n m : Nat} {h : AH} (Q : QAt h n m []) : f_Queue_take [.loc n] h = .ex 1 [(0, .str [101, 109, 112, 116, 121])] h := by
  refine fn_ex (σ := [some (.loc n), none, none]) ?_
  show b_Queue_take [some (.loc n), none, none] h = _
  exact sv_seq_ex (sv_set_ex ((ev_meth (xs := []) (ys := []) (ev_var rfl) Q.q ⟨rfl, rfl⟩ ev_nil ev_nil ⟨rfl, rfl⟩).trans (first_ex Q)))
theorem least_ok {n m : Nat} {l : List En} {h : AH} (b : Bool) (Q : QAt h n m l) (h0 : 0 < l.length) (hz : l.length < 1000000) : f__law_least [.loc n, .bl b] h = .ok (g l 0).w (if b then h.set m (.lst ((tk l).map En.w)) else h) := by
  refine fn_rt ?_
  show b__law_least [some (.loc n), some (.bl b), none] h = _
  have e : dIf (dVar 1) (dMeth f_Queue_take [2] 5 0 0 [0] [] (dVar 0) dNil dNil) (dMeth f_Queue_first [2] 3 0 0 [0] [] (dVar 0) dNil dNil) [some (.loc n), some (.bl b), none] h = .ok (g l 0).w (if b then h.set m (.lst ((tk l).map En.w)) else h) := by
    refine (ev_if (ev_dT (k := b) (ev_var rfl) rfl)).trans ?_
    cases b with
    | true => rw [if_pos rfl, if_pos rfl]; exact (ev_meth (xs := []) (ys := []) (ev_var rfl) Q.q ⟨rfl, rfl⟩ ev_nil ev_nil ⟨rfl, rfl⟩).trans (take_ok Q h0 hz)
    | false => rw [if_neg (by decide), if_neg (by decide)]; exact (ev_meth (xs := []) (ys := []) (ev_var rfl) Q.q ⟨rfl, rfl⟩ ev_nil ev_nil ⟨rfl, rfl⟩).trans (first_ok Q h0)
  unfold b__law_least dTryX
  rw [sv_ret e]
theorem least_non {n m : Nat} {h : AH} (b : Bool) (Q : QAt h n m []) : f__law_least [.loc n, .bl b] h = .ok .non h := by
  refine fn_rt ?_
  show b__law_least [some (.loc n), some (.bl b), none] h = _
  have e : dIf (dVar 1) (dMeth f_Queue_take [2] 5 0 0 [0] [] (dVar 0) dNil dNil) (dMeth f_Queue_first [2] 3 0 0 [0] [] (dVar 0) dNil dNil) [some (.loc n), some (.bl b), none] h = .ex 1 [(0, .str [101, 109, 112, 116, 121])] h := by
    refine (ev_if (ev_dT (k := b) (ev_var rfl) rfl)).trans ?_
    cases b with
    | true => rw [if_pos rfl]; exact (ev_meth (xs := []) (ys := []) (ev_var rfl) Q.q ⟨rfl, rfl⟩ ev_nil ev_nil ⟨rfl, rfl⟩).trans (take_ex Q)
    | false => rw [if_neg (by decide)]; exact (ev_meth (xs := []) (ys := []) (ev_var rfl) Q.q ⟨rfl, rfl⟩ ev_nil ev_nil ⟨rfl, rfl⟩).trans (first_ex Q)
  unfold b__law_least dTryX
  rw [sv_ret_ex e]
  rfl
/-! take_all -/
def allC : Den := dOp (eqF true) dRow (dLst false dNil)
def allB : SDen := dDrop (dMtL appF (dVar 1) (dCons (dMeth f_Queue_take [2] 5 0 0 [0] [] (dVar 0) dNil dNil) dNil))
theorem all_loop {n m p : Nat} : ∀ (k : Nat) (l acc : List En) (h : AH), l.length = k → HeapL l → QAt h n m l → h[p]? = some (.lst (acc.map En.w)) → p ≠ m → p ≠ n → acc.length + l.length < 1000000 →
    ∃ h', whW allC allB (k + 1) [some (.loc n), some (.loc p)] h = .nx [some (.loc n), some (.loc p)] h' ∧ QAt h' n m [] ∧ h'[p]? = some (.lst ((acc ++ srt l).map En.w)) ∧ h'.length = h.length ∧ ∀ i, i ≠ m → i ≠ p → h'[i]? = h[i]? := by
  intro k
  induction k with
  | zero =>
    intro l acc h hl H Q hp nm nn hz
    obtain rfl : l = [] := List.eq_nil_of_length_eq_zero hl
    exact ⟨h, wh_stop (ev_dT (nil_ok true (row_ok rfl Q) Q.r) rfl), Q, by simpa [srt] using hp, rfl, fun _ _ _ => rfl⟩
  | succ k ih =>
    intro l acc h hl H Q hp nm nn hz
    have ne : l.isEmpty = false := by cases l <;> first | rfl | (simp at hl)
    have hc : dT allC [some (.loc n), some (.loc p)] h = .ok true h := by
      have := ev_dT (nil_ok true (row_ok (σ := [some (.loc n), some (.loc p)]) rfl Q) Q.r) rfl
      rw [ne] at this; exact this
    have lp := (List.getElem?_eq_some_iff.mp hp).1
    have Q1 : QAt (h.set m (.lst ((tk l).map En.w))) n m (tk l) := Q.wr
    have p1 : (h.set m (.lst ((tk l).map En.w)))[p]? = some (.lst (acc.map En.w)) := by rw [h_set, if_neg nm.symm]; exact hp
    have hb : allB [some (.loc n), some (.loc p)] h = .nx [some (.loc n), some (.loc p)] ((h.set m (.lst ((tk l).map En.w))).set p (.lst ((acc ++ [g l 0]).map En.w))) := by
      refine sv_drop (x := .non) (ev_mt (ev_var rfl) (by simp only [isLst, lstOf, hp]) (ev_cons ((ev_meth (xs := []) (ys := []) (ev_var rfl) Q.q ⟨rfl, rfl⟩ ev_nil ev_nil ⟨rfl, rfl⟩).trans (take_ok Q (by omega) (by omega))) ev_nil) ?_)
      simp only [appF, p1]
      rw [if_pos (by rw [List.length_map]; exact mil (by omega)), wrL, List.map_append]; rfl
    obtain ⟨Ht, Pt⟩ := tk_heap H (by omega)
    have lt : (tk l).length = k := by have := Pt.length_eq; rw [List.length_cons] at this; omega
    have Q2 : QAt ((h.set m (.lst ((tk l).map En.w))).set p (.lst ((acc ++ [g l 0]).map En.w))) n m (tk l) := ⟨by rw [h_set, if_neg nn]; exact Q1.q, by rw [h_set, if_neg nm]; exact Q1.r⟩
    obtain ⟨h', e1, e2, e3, e4, e5⟩ := ih (tk l) (acc ++ [g l 0]) _ lt Ht Q2 (by rw [h_set, if_pos rfl, if_pos (by rw [List.length_set]; exact lp)]) nm nn (by rw [List.length_append, List.length_singleton]; omega)
    refine ⟨h', (wh_go hc hb).trans e1, e2, ?_, by rw [e4, List.length_set, List.length_set], fun i a b => ?_⟩
    · rw [e3, tk_srt H (by omega), List.append_assoc]; rfl
    · rw [e5 i a b, h_set, if_neg b.symm, h_set, if_neg a.symm]
theorem all_ok {n m : Nat} {l : List En} {h : AH} (Q : QAt h n m l) (H : HeapL l) (hz : l.length < 1000000) : ∃ h', f_Queue_take_all [.loc n] h = .ok (.tup ((srt l).map En.w)) h' ∧ QAt h' n m [] ∧ h.length ≤ h'.length ∧ ∀ i, i ≠ m → i < h.length → h'[i]? = h[i]? := by
  have ln := (List.getElem?_eq_some_iff.mp Q.q).1
  have old : ∀ i, i < h.length → (h ++ [AO.lst []])[i]? = h[i]? := fun i hi => List.getElem?_append_left hi
  have Q1 : QAt (h ++ [AO.lst []]) n m l := ⟨by rw [old _ ln]; exact Q.q, by rw [old _ Q.lt]; exact Q.r⟩
  obtain ⟨h', e1, e2, e3, e4, e5⟩ := all_loop (p := h.length) l.length l [] _ rfl H Q1 (by rw [List.getElem?_append_right (Nat.le_refl _)]; simp) (by have := Q.lt; omega) (by omega) (by simpa using hz)
  refine ⟨h', fn_rt ?_, e2, by rw [e4, List.length_append]; omega, fun i a b => by rw [e5 i a (by omega), old i b]⟩
  show b_Queue_take_all [some (.loc n), none] h = _
  refine (sv_seq (sv_set (ev_lstT ev_nil (by decide)))).trans ?_
  refine (sv_seq (dWhile_of (n := l.length + 1) (by omega) e1 (by intro z; cases z))).trans (sv_ret ?_)
  refine ev_cl1 (ev_var rfl) ?_
  rw [List.nil_append] at e3
  simp only [tupleF, lstOf, e3]; rfl
end K31
set_option Elab.async false
set_option linter.all false
set_option maxRecDepth 100000
set_option maxHeartbeats 1000000
/-! Queues, part 7: a deed. -/
namespace K31
open Dn PySem
/-- at n a queue with its row at m, at q what is due -/
structure Pr (h : AH) (n m q : Nat) (l due : List En) : Prop where
  Q : QAt h n m l
  D : h[q]? = some (.lst (due.map En.w))
  H : HeapL l
  P : l.Perm due
  qm : q ≠ m
  qn : q ≠ n
  n2 : 2 ≤ n
  m2 : 2 ≤ m
  q2 : 2 ≤ q
theorem Pr.stp {h h' : AH} {n m q : Nat} {l due : List En} (p : Pr h n m q l due) (S : Stp h h') : Pr h' n m q l due :=
  ⟨⟨by rw [S.k _ p.n2]; exact p.Q.q, by rw [S.k _ p.m2]; exact p.Q.r⟩, by rw [S.k _ p.q2]; exact p.D, p.H, p.P, p.qm, p.qn, p.n2, p.m2, p.q2⟩
theorem Pr.lq {h : AH} {n m q : Nat} {l due : List En} (p : Pr h n m q l due) : q < h.length := (List.getElem?_eq_some_iff.mp p.D).1
theorem DA.set {h : AH} (D : DA h) {i : Nat} (hi : 2 ≤ i) (o : AO) : DA (h.set i o) := by
  obtain ⟨cs, st, D⟩ := D
  exact ⟨cs, st, by rw [h_set, if_neg (by omega)]; exact D.c, by rw [h_set, if_neg (by omega)]; exact D.s, D.z⟩
/-- what else stands is left -/
structure Fm (h h' : AH) (m q : Nat) : Prop where
  l : h.length ≤ h'.length
  k : ∀ i, 2 ≤ i → i < h.length → i ≠ m → i ≠ q → h'[i]? = h[i]?
theorem Fm.ofS {h h' : AH} {m q : Nat} (S : Stp h h') : Fm h h' m q := ⟨Nat.le_of_eq S.l.symm, fun i a _ _ _ => S.k i a⟩
theorem Fm.trans {a b c : AH} {m q : Nat} (x : Fm a b m q) (y : Fm b c m q) : Fm a c m q := ⟨Nat.le_trans x.l y.l, fun i h1 h2 h3 h4 => (y.k i h1 (Nat.lt_of_lt_of_le h2 x.l) h3 h4).trans (x.k i h1 h2 h3 h4)⟩
theorem Fm.setM {h : AH} {m q : Nat} (o : AO) : Fm h (h.set m o) m q := ⟨by rw [List.length_set]; exact Nat.le_refl _, fun i _ _ a _ => by rw [h_set, if_neg a.symm]⟩
theorem Fm.setQ {h : AH} {m q : Nat} (o : AO) : Fm h (h.set q o) m q := ⟨by rw [List.length_set]; exact Nat.le_refl _, fun i _ _ _ a => by rw [h_set, if_neg a.symm]⟩
theorem find_ok {e : En} : ∀ {due : List En}, e ∈ due → ∃ j, findW e.w (due.map En.w) = some j ∧ ∃ hj : j < due.length, due[j] = e
  | [], h => by cases h
  | d :: r, h => by
    rw [List.map_cons]
    unfold findW
    rw [w_eq]
    by_cases q : d = e
    · exact ⟨0, by rw [if_pos (by simp [q])], by simp, q⟩
    · obtain ⟨j, e1, hj, e2⟩ := find_ok ((List.mem_cons.mp h).resolve_left (fun z => q z.symm))
      exact ⟨j + 1, by rw [if_neg (by simp [q]), e1]; rfl, by simp; omega, by simpa using e2⟩
theorem srt_nil : srt [] = [] := by simp [srt]
theorem map_erase : ∀ (l : List En) (i : Nat), (l.eraseIdx i).map En.w = (l.map En.w).eraseIdx i
  | [], _ => rfl
  | _ :: _, 0 => rfl
  | a :: l, i + 1 => by simp [List.eraseIdx, map_erase l i]
theorem erase_perm : ∀ {l : List En} {i : Nat} (h : i < l.length), (l[i] :: l.eraseIdx i).Perm l
  | a :: l, 0, _ => .refl _
  | a :: l, i + 1, h => (List.Perm.swap _ _ _).trans (List.Perm.cons a (erase_perm (l := l) (i := i) (by simpa using h)))
theorem eq_w (n : Bool) (e : En) (h : AH) : eqF n e.w e.w h = some (.bl (!n), h) := by
  unfold eqF
  have v : vw h e.w = e.w := rfl
  rw [v, if_pos ⟨w_okD e 59, w_okD e 59⟩, w_eq]
  cases n <;> simp [Dn.ret]
theorem eq_refl (x : W) (h : AH) (hx : okD 60 x = true) (hv : vw h x = x) : eqF false x x h = some (.bl true, h) := by
  unfold eqF
  rw [hv, if_pos ⟨hx, hx⟩, eqW_refl 60 x hx]; rfl
theorem nilF_ok {σ : Ev} {h : AH} {d : Den} {l : List En} (b : Bool) (hd : d σ h = .ok (.lst (l.map En.w)) h) : dOp (eqF b) d (dLst false dNil) σ h = .ok (.bl (if b then !l.isEmpty else l.isEmpty)) h := by
  refine ev_op hd (ev_lstF ev_nil (by decide)) ?_
  have e : eqW 60 (.lst (l.map En.w)) (.lst []) = l.isEmpty := by cases l <;> rfl
  unfold eqF
  rw [show vw h (.lst (l.map En.w)) = .lst (l.map En.w) from rfl, show vw h (.lst []) = .lst [] from rfl, if_pos ⟨okD_row l, rfl⟩, e]; rfl
/-- the first of what is due, or None -/
abbrev dFst : Den := dIf (dOp (eqF true) (dVar 4) (dLst false dNil)) (dOp ixF (dVar 4) (dCst (.int 0))) (dCst .non)
theorem fst_cons {σ : Ev} {h : AH} {e : En} {r : List En} (hs : σ[4]? = some (some (.lst ((e :: r).map En.w)))) : dFst σ h = .ok e.w h := by
  refine (ev_if (ev_dT (nilF_ok (l := e :: r) true (ev_var hs)) rfl)).trans ?_
  rw [if_pos rfl]
  have a0 : L2.atI ((e :: r).map En.w) 0 = some e.w := at_nat (k := 0) rfl
  exact ev_op0 (ev_var hs) ev_cst (by simp only [ixF, seqOf, lstOf]; rw [a0]; rfl)
theorem fst_nil {σ : Ev} {h : AH} (hs : σ[4]? = some (some (.lst []))) : dFst σ h = .ok .non h := by
  refine (ev_if (ev_dT (nilF_ok (l := []) true (ev_var hs)) rfl)).trans ?_
  rw [if_neg (by decide)]; rfl
def Good (h : AH) (n m q : Nat) (due : List En) (r : R W) : Prop := ∃ (h' : AH) (l' due' : List En), r = .ok (.bl true) h' ∧ DA h' ∧ Pr h' n m q l' due' ∧ due'.length ≤ due.length + 1 ∧ Fm h h' m q
abbrev sd (n q : Nat) (k : Int) (x4 x5 x6 : Option W) : Ev := [some (.loc 1), some (.loc n), some (.loc q), some (.int k), x4, x5, x6]
theorem put_deed {h : AH} {n m q : Nat} {l due : List En} (D : DA h) (p : Pr h n m q l due) (hz : due.length < 100000) (k : Int) : ∃ (h' : AH) (l' due' : List En), (dSeq (dSet 5 (dCall f__law_entry 1 0 [0] [] (dCons (dVar 0) dNil) dNil))
  (dSeq (dDrop (dMtL appF (dVar 2) (dCons (dVar 5) dNil)))
  (dRet (dOp (isF false) (dMeth f_Queue_put [2] 6 1 0 [0, 1] [] (dVar 1) (dCons (dVar 5) dNil) dNil) (dCst .non))))) (sd n q k none none none) h = .rt (.bl true) h' ∧ DA h' ∧ Pr h' n m q l' due' ∧ due'.length ≤ due.length + 1 ∧ Fm h h' m q := by
  obtain ⟨e, h1, e1, S⟩ := entry_ok D
  have p1 := p.stp S
  have ll : l.length = due.length := p.P.length_eq
  have DQ : DA (h1.set q (.lst ((due ++ [e]).map En.w))) := DA.set S.d p.q2 _
  have Q2 : QAt (h1.set q (.lst ((due ++ [e]).map En.w))) n m l := ⟨by rw [h_set, if_neg p.qn]; exact p1.Q.q, by rw [h_set, if_neg p.qm]; exact p1.Q.r⟩
  obtain ⟨H', P'⟩ := put_heap e p.H
  refine ⟨(h1.set q (.lst ((due ++ [e]).map En.w))).set m (.lst ((up e l.length (l ++ [e])).map En.w)), up e l.length (l ++ [e]), due ++ [e], ?_, DA.set DQ p.m2 _, ⟨Q2.wr, ?_, H', P'.trans (p.P.append_right _), p.qm, p.qn, p.n2, p.m2, p.q2⟩, by simp, (Fm.ofS S).trans ((Fm.setQ _).trans (Fm.setM _))⟩
  · refine (sv_seq (sv_set ((ev_call (ev_cons (ev_var rfl) ev_nil) ev_nil ⟨rfl, rfl⟩).trans e1))).trans ?_
    refine (sv_seq (sv_drop (x := .non) (h1 := h1.set q (.lst ((due ++ [e]).map En.w))) (ev_mt (x := .loc q) (ev_var rfl) (by simp only [isLst, lstOf, p1.D]) (ev_cons (ev_var rfl) ev_nil) ?_))).trans ?_
    · simp only [appF, p1.D]
      rw [if_pos (by rw [List.length_map]; exact mil (by omega)), wrL, List.map_append]; rfl
    · exact sv_ret (ev_op ((ev_meth (xs := [e.w]) (ys := []) (ev_var rfl) Q2.q ⟨rfl, rfl⟩ (ev_cons (ev_var rfl) ev_nil) ev_nil ⟨rfl, rfl⟩).trans (put_ok Q2 (by omega))) ev_cst rfl)
  · rw [h_set, if_neg p.qm.symm, h_set, if_pos rfl, if_pos p1.lq]
theorem ls_ok {σ : Ev} {h : AH} {n m : Nat} {l : List En} (b : Bool) (hs : σ[1]? = some (some (.loc n))) (Q : QAt h n m l) (h0 : 0 < l.length) (hz : l.length < 1000000) : dCall f__law_least 2 0 [0, 1] [] (dCons (dVar 1) (dCons (dCst (.bl b)) dNil)) dNil σ h = .ok (g l 0).w (if b then h.set m (.lst ((tk l).map En.w)) else h) :=
  (ev_call (xs := [.loc n, .bl b]) (ys := []) (ev_cons (ev_var hs) (ev_cons ev_cst ev_nil)) ev_nil ⟨rfl, rfl⟩).trans (least_ok b Q h0 hz)
theorem ls_non {σ : Ev} {h : AH} {n m : Nat} (b : Bool) (hs : σ[1]? = some (some (.loc n))) (Q : QAt h n m []) : dCall f__law_least 2 0 [0, 1] [] (dCons (dVar 1) (dCons (dCst (.bl b)) dNil)) dNil σ h = .ok .non h :=
  (ev_call (xs := [.loc n, .bl b]) (ys := []) (ev_cons (ev_var hs) (ev_cons ev_cst ev_nil)) ev_nil ⟨rfl, rfl⟩).trans (least_non b Q)
theorem take_deed {h : AH} {n m q : Nat} {l due : List En} (D : DA h) (p : Pr h n m q l due) (hz : due.length < 100000) (k : Int) : ∃ (h' : AH) (l' due' : List En), (dSeq (dSet 6 (dCall f__law_least 2 0 [0, 1] [] (dCons (dVar 1) (dCons (dCst (.bl true)) dNil)) dNil))
  (dSeq (dIfS (dOp (eqF true) (dVar 4) (dLst false dNil)) (dDrop (dMtL remF (dVar 2) (dCons (dOp ixF (dVar 4) (dCst (.int 0))) dNil))) dNext)
  (dRet (dOp (eqF false) (dVar 6) dFst)))) (sd n q k (some (.lst ((srt due).map En.w))) none none) h = .rt (.bl true) h' ∧ DA h' ∧ Pr h' n m q l' due' ∧ due'.length ≤ due.length + 1 ∧ Fm h h' m q := by
  have ll : l.length = due.length := p.P.length_eq
  by_cases h0 : 0 < l.length
  · have es : srt due = g l 0 :: srt (tk l) := (srt_perm p.P.symm).trans (tk_srt p.H h0)
    obtain ⟨Ht, Pt⟩ := tk_heap p.H h0
    have mem : g l 0 ∈ due := p.P.subset (by rw [g_eq h0]; exact List.getElem_mem h0)
    obtain ⟨j, fj, hj, ej⟩ := find_ok mem
    have dq : (h.set m (.lst ((tk l).map En.w)))[q]? = some (.lst (due.map En.w)) := by rw [h_set, if_neg p.qm.symm]; exact p.D
    have DM : DA (h.set m (.lst ((tk l).map En.w))) := D.set p.m2 _
    have Q1 : QAt (h.set m (.lst ((tk l).map En.w))) n m (tk l) := p.Q.wr
    have er : (due.map En.w).eraseIdx j = (due.eraseIdx j).map En.w := by
      exact (map_erase due j).symm
    refine ⟨(h.set m (.lst ((tk l).map En.w))).set q (.lst ((due.eraseIdx j).map En.w)), tk l, due.eraseIdx j, ?_, DM.set p.q2 _, ⟨⟨by rw [h_set, if_neg p.qn]; exact Q1.q, by rw [h_set, if_neg p.qm]; exact Q1.r⟩, by rw [h_set, if_pos rfl, if_pos (List.getElem?_eq_some_iff.mp dq).1], Ht, ?_, p.qm, p.qn, p.n2, p.m2, p.q2⟩, by have := List.length_eraseIdx_le due j; omega, (Fm.setM _).trans (Fm.setQ _)⟩
    · rw [es]
      have a0 : L2.atI ((g l 0 :: srt (tk l)).map En.w) 0 = some (g l 0).w := at_nat (k := 0) rfl
      refine (sv_seq (sv_set (ls_ok (σ := sd n q k (some (.lst ((g l 0 :: srt (tk l)).map En.w))) none none) true rfl p.Q h0 (by omega)))).trans ?_
      rw [if_pos rfl]
      show dSeq _ _ (sd n q k (some (.lst ((g l 0 :: srt (tk l)).map En.w))) none (some (g l 0).w)) _ = _
      refine (sv_seq (σ' := sd n q k (some (.lst ((g l 0 :: srt (tk l)).map En.w))) none (some (g l 0).w)) ((sv_if (ev_dT (nilF_ok (l := g l 0 :: srt (tk l)) true (ev_var rfl)) rfl)).trans ?_)).trans (sv_ret (ev_op0 (ev_var rfl) (fst_cons (e := g l 0) (r := srt (tk l)) rfl) (eq_w false _ _)))
      rw [if_pos rfl]
      refine sv_drop (x := .non) (ev_mt (x := .loc q) (ev_var rfl) (by simp only [isLst, lstOf, dq]) (ev_cons (ev_op0 (ev_var (i := 4) rfl) ev_cst (by simp only [ixF, seqOf, lstOf]; rw [a0]; rfl)) ev_nil) ?_)
      have o59 : (due.map En.w).all (okD 59) = true := by
        rw [List.all_eq_true]; intro x hx
        obtain ⟨e, _, rfl⟩ := List.mem_map.mp hx
        exact w_okD e 58
      simp only [remF, dq]
      rw [if_pos ⟨o59, w_okD _ 59⟩, fj]
      simp only [wrL, er]
    · have := erase_perm hj
      rw [ej] at this
      exact (List.Perm.cons_inv ((Pt.symm.trans p.P).trans this.symm))
  · have l0 : l = [] := List.eq_nil_of_length_eq_zero (by omega)
    subst l0
    have d0 : due = [] := List.eq_nil_of_length_eq_zero (by rw [← ll]; rfl)
    subst d0
    refine ⟨h, [], [], ?_, D, p, by simp, ⟨Nat.le_refl _, fun _ _ _ _ _ => rfl⟩⟩
    rw [srt_nil]
    show (dSeq _ _) (sd n q k (some (.lst [])) none none) h = _
    refine (sv_seq (sv_set (ls_non (σ := sd n q k (some (.lst [])) none none) true rfl p.Q))).trans ?_
    show dSeq _ _ (sd n q k (some (.lst [])) none (some .non)) _ = _
    refine (sv_seq (σ' := sd n q k (some (.lst [])) none (some .non)) (h1 := h) ((sv_if (ev_dT (nilF_ok (l := []) true (ev_var rfl)) rfl)).trans ?_)).trans (sv_ret (ev_op0 (ev_var rfl) (fst_nil rfl) rfl))
    rw [if_neg (by decide)]; rfl
theorem look_deed {h : AH} {n m q : Nat} {l due : List En} (D : DA h) (p : Pr h n m q l due) (hz : due.length < 100000) (k : Int) : (dRet (dAnd (dOp (eqF false) (dCall f__law_least 2 0 [0, 1] [] (dCons (dVar 1) (dCons (dCst (.bl false)) dNil)) dNil) dFst) (dOp (eqF false) (dMeth f_Queue_listed [2] 7 0 0 [0] [] (dVar 1) dNil dNil) (dCl tupleF (dCons (dVar 4) dNil)))))
  (sd n q k (some (.lst ((srt due).map En.w))) none none) h = .rt (.bl true) h := by
  have ll : l.length = due.length := p.P.length_eq
  have es : srt l = srt due := srt_perm p.P
  have lst : dOp (eqF false) (dMeth f_Queue_listed [2] 7 0 0 [0] [] (dVar 1) dNil dNil) (dCl tupleF (dCons (dVar 4) dNil)) (sd n q k (some (.lst ((srt due).map En.w))) none none) h = .ok (.bl true) h := by
    refine ev_op0 ((ev_meth (xs := []) (ys := []) (ev_var rfl) p.Q.q ⟨rfl, rfl⟩ ev_nil ev_nil ⟨rfl, rfl⟩).trans (listed_ok p.Q)) (ev_cl1 (ev_var (i := 4) rfl) (z := .tup ((srt due).map En.w)) rfl) ?_
    rw [es]
    exact eq_refl _ h (okD_row (srt due)) rfl
  have f1 : dOp (eqF false) (dCall f__law_least 2 0 [0, 1] [] (dCons (dVar 1) (dCons (dCst (.bl false)) dNil)) dNil) dFst (sd n q k (some (.lst ((srt due).map En.w))) none none) h = .ok (.bl true) h := by
    by_cases h0 : 0 < l.length
    · have e2 : srt due = g l 0 :: srt (tk l) := es.symm.trans (tk_srt p.H h0)
      rw [e2]
      exact ev_op0 (ls_ok (σ := sd n q k (some (.lst ((g l 0 :: srt (tk l)).map En.w))) none none) false rfl p.Q h0 (by omega)) (fst_cons (e := g l 0) (r := srt (tk l)) rfl) (eq_w false _ _)
    · have l0 : l = [] := List.eq_nil_of_length_eq_zero (by omega)
      subst l0
      have d0 : due = [] := List.eq_nil_of_length_eq_zero (by rw [← ll]; rfl)
      subst d0
      rw [srt_nil]
      exact ev_op0 (ls_non (σ := sd n q k (some (.lst [])) none none) false rfl p.Q) (fst_nil rfl) rfl
  exact sv_ret ((ev_and_t f1 rfl).trans lst)
theorem clear_loop {n q : Nat} {k : Int} {x4 : Option W} : ∀ (j : Nat) (due : List En) (h : AH), due.length = j → h[q]? = some (.lst (due.map En.w)) → ∃ h', whW (dOp (eqF true) (dVar 2) (dLst false dNil)) (dDrop (dMtL popF (dVar 2) dNil)) (j + 1) (sd n q k x4 none none) h = .nx (sd n q k x4 none none) h' ∧ h' = h.set q (.lst []) := by
  intro j
  induction j with
  | zero =>
    intro due h hl hq
    obtain rfl : due = [] := List.eq_nil_of_length_eq_zero hl
    exact ⟨h, wh_stop (ev_dT (nil_ok true (ev_var rfl) hq) rfl), (h_self hq).symm⟩
  | succ j ih =>
    intro due h hl hq
    have ne : due.isEmpty = false := by cases due <;> first | rfl | (simp at hl)
    have hc : dT (dOp (eqF true) (dVar 2) (dLst false dNil)) (sd n q k x4 none none) h = .ok true h := by
      have := ev_dT (nil_ok true (ev_var (σ := sd n q k x4 none none) (i := 2) rfl) hq) rfl
      rw [ne] at this; exact this
    have lq := (List.getElem?_eq_some_iff.mp hq).1
    have hb : (dDrop (dMtL popF (dVar 2) dNil)) (sd n q k x4 none none) h = .nx (sd n q k x4 none none) (h.set q (.lst (due.dropLast.map En.w))) := by
      refine sv_drop (x := (g due (due.length - 1)).w) (ev_mt (x := .loc q) (ev_var rfl) (by simp only [isLst, lstOf, hq]) ev_nil ?_)
      have : (due.map En.w)[(due.map En.w).length - 1]? = some (g due (due.length - 1)).w := by
        rw [List.length_map, List.getElem?_map, g_at (by omega)]; rfl
      simp only [popF, hq, this, wrL, List.map_dropLast]
    obtain ⟨h', e1, e2⟩ := ih due.dropLast _ (by rw [List.length_dropLast]; omega) (by rw [h_set, if_pos rfl, if_pos lq])
    exact ⟨h', (wh_go hc hb).trans e1, by rw [e2, List.set_set]⟩
theorem clear_deed {h : AH} {n m q : Nat} {l due : List En} (D : DA h) (p : Pr h n m q l due) (hz : due.length < 100000) (k : Int) : ∃ (h' : AH) (l' due' : List En), (dSeq (dWhile (dOp (eqF true) (dVar 2) (dLst false dNil)) (dDrop (dMtL popF (dVar 2) dNil)))
  (dRet (dOp (eqF false) (dMeth f_Queue_take_all [2] 9 0 0 [0] [] (dVar 1) dNil dNil) (dCl tupleF (dCons (dVar 4) dNil))))) (sd n q k (some (.lst ((srt due).map En.w))) none none) h = .rt (.bl true) h' ∧ DA h' ∧ Pr h' n m q l' due' ∧ due'.length ≤ due.length + 1 ∧ Fm h h' m q := by
  have ll : l.length = due.length := p.P.length_eq
  have es : srt l = srt due := srt_perm p.P
  obtain ⟨h1, e1, rfl⟩ := clear_loop (n := n) (k := k) (x4 := some (.lst ((srt due).map En.w))) due.length due h rfl p.D
  have D1 : DA (h.set q (.lst [])) := D.set p.q2 _
  have Q1 : QAt (h.set q (.lst [])) n m l := ⟨by rw [h_set, if_neg p.qn]; exact p.Q.q, by rw [h_set, if_neg p.qm]; exact p.Q.r⟩
  obtain ⟨h2, e2, Q2, l2, f2⟩ := all_ok Q1 p.H (by omega)
  have d2 : h2[q]? = some (.lst []) := by rw [f2 q p.qm (by rw [List.length_set]; exact p.lq), h_set, if_pos rfl, if_pos p.lq]
  have D2 : DA h2 := by
    obtain ⟨cs, st, D1⟩ := D1
    have a0 := (List.getElem?_eq_some_iff.mp D1.c).1
    have a1 := (List.getElem?_eq_some_iff.mp D1.s).1
    have := p.m2
    exact ⟨cs, st, by rw [f2 0 (by omega) a0]; exact D1.c, by rw [f2 1 (by omega) a1]; exact D1.s, D1.z⟩
  refine ⟨h2, [], [], ?_, D2, ⟨Q2, d2, fun i i0 il => by simp at il, .refl _, p.qm, p.qn, p.n2, p.m2, p.q2⟩, by simp, (Fm.setQ (.lst [])).trans ⟨l2, fun i _ il a _ => f2 i a il⟩⟩
  refine (sv_seq (dWhile_of (n := due.length + 1) (by omega) e1 (by intro z; cases z))).trans (sv_ret ?_)
  refine ev_op ((ev_meth (xs := []) (ys := []) (ev_var rfl) Q1.q ⟨rfl, rfl⟩ ev_nil ev_nil ⟨rfl, rfl⟩).trans e2) (ev_cl1 (ev_var (i := 4) rfl) (z := .tup ((srt due).map En.w)) rfl) ?_
  rw [es]
  exact eq_refl _ h2 (okD_row (srt due)) rfl
/-- any deed -/
theorem deed_ok {h : AH} {n m q : Nat} {l due : List En} (D : DA h) (p : Pr h n m q l due) (hz : due.length < 100000) : ∃ (h' : AH) (l' due' : List En), f__law_deed [.loc 1, .loc n, .loc q] h = .ok (.bl true) h' ∧ DA h' ∧ Pr h' n m q l' due' ∧ due'.length ≤ due.length + 1 ∧ Fm h h' m q := by
  obtain ⟨k, h1, e1, k0, k9, S⟩ := dr_ok (σ := [some (.loc 1), some (.loc n), some (.loc q), none, none, none, none]) (dm := dCst (.int 9)) rfl D ev_cst (by decide) (by decide)
  have p1 := p.stp S
  have D1 : DA h1 := S.d
  have start : ∀ (b : SDen), (dSeq (dSet 3 (dCall f__law_draw 2 0 [0, 1] [] (dCons (dVar 0) (dCons (dCst (.int 9)) dNil)) dNil)) b) [some (.loc 1), some (.loc n), some (.loc q), none, none, none, none] h = b (sd n q k none none none) h1 := fun b => sv_seq (sv_set e1)
  have c4 : dT (dOp ltF (dVar 3) (dCst (.int 4))) (sd n q k none none none) h1 = .ok (decide (k < 4)) h1 := ev_dT (lt_int (ev_var rfl) ev_cst) rfl
  by_cases h4 : k < 4
  · rw [decide_eq_true h4] at c4
    obtain ⟨h', l', due', e, a, b, c, d⟩ := put_deed D1 p1 hz k
    refine ⟨h', l', due', fn_rt ?_, a, b, c, (Fm.ofS S).trans d⟩
    refine (start _).trans (sv_seq_rt ((sv_if c4).trans ?_))
    rw [if_pos rfl]; exact e
  rw [decide_eq_false h4] at c4
  have s4 : ∀ (a b : SDen), (dSeq (dIfS (dOp ltF (dVar 3) (dCst (.int 4))) a dNext) (dSeq (dSet 4 (dCl (sortF false) (dCons (dVar 2) dNil))) b)) (sd n q k none none none) h1 = b (sd n q k (some (.lst ((srt due).map En.w))) none none) h1 := fun a b => by
    refine (sv_seq (σ' := sd n q k none none none) (h1 := h1) ((sv_if c4).trans ?_)).trans (sv_seq (sv_set (sort_loc (ev_var rfl) p1.D)))
    rw [if_neg (by decide)]; rfl
  have c7 : dT (dOp ltF (dVar 3) (dCst (.int 7))) (sd n q k (some (.lst ((srt due).map En.w))) none none) h1 = .ok (decide (k < 7)) h1 := ev_dT (lt_int (ev_var rfl) ev_cst) rfl
  by_cases h7 : k < 7
  · rw [decide_eq_true h7] at c7
    obtain ⟨h', l', due', e, a, b, c, d⟩ := take_deed D1 p1 hz k
    refine ⟨h', l', due', fn_rt ?_, a, b, c, (Fm.ofS S).trans d⟩
    refine (start _).trans ((s4 _ _).trans (sv_seq_rt ((sv_if c7).trans ?_)))
    rw [if_pos rfl]; exact e
  rw [decide_eq_false h7] at c7
  have s7 : ∀ (a b : SDen), (dSeq (dIfS (dOp ltF (dVar 3) (dCst (.int 7))) a dNext) b) (sd n q k (some (.lst ((srt due).map En.w))) none none) h1 = b (sd n q k (some (.lst ((srt due).map En.w))) none none) h1 := fun a b => by
    refine sv_seq ((sv_if c7).trans ?_)
    rw [if_neg (by decide)]; rfl
  have ce : dT (dOp (eqF false) (dVar 3) (dCst (.int 7))) (sd n q k (some (.lst ((srt due).map En.w))) none none) h1 = .ok (k == 7) h1 := ev_dT (ev_op0 (z := .bl (k == 7)) (ev_var rfl) ev_cst rfl) rfl
  by_cases h8 : k = 7
  · refine ⟨h1, l, due, fn_rt ?_, D1, p1, by omega, Fm.ofS S⟩
    refine (start _).trans ((s4 _ _).trans ((s7 _ _).trans (sv_seq_rt ((sv_if ce).trans ?_))))
    rw [if_pos (by simp [h8])]
    exact look_deed D1 p1 hz k
  have s8 : ∀ (a b : SDen), (dSeq (dIfS (dOp (eqF false) (dVar 3) (dCst (.int 7))) a dNext) b) (sd n q k (some (.lst ((srt due).map En.w))) none none) h1 = b (sd n q k (some (.lst ((srt due).map En.w))) none none) h1 := fun a b => by
    refine sv_seq ((sv_if ce).trans ?_)
    rw [if_neg (by simp [h8])]; rfl
  obtain ⟨j, h2, e2, j0, j5, S2⟩ := dr_ok (σ := sd n q k (some (.lst ((srt due).map En.w))) none none) (dm := dCst (.int 5)) rfl D1 ev_cst (by decide) (by decide)
  have p2 := p1.stp S2
  have cg : dT (dOp gtF (dCall f__law_draw 2 0 [0, 1] [] (dCons (dVar 0) (dCons (dCst (.int 5)) dNil)) dNil) (dCst (.int 0))) (sd n q k (some (.lst ((srt due).map En.w))) none none) h1 = .ok (decide (0 < j)) h2 := ev_dT (ev_op e2 ev_cst rfl) rfl
  have SS := S.trans S2
  by_cases hj : 0 < j
  · rw [decide_eq_true hj] at cg
    refine ⟨h2, l, due, fn_rt ?_, S2.d, p2, by omega, Fm.ofS SS⟩
    refine (start _).trans ((s4 _ _).trans ((s7 _ _).trans ((s8 _ _).trans (sv_seq_rt ((sv_if cg).trans ?_)))))
    rw [if_pos rfl]
    refine sv_ret (ev_op0 ((ev_meth (xs := []) (ys := []) (ev_var rfl) p2.Q.q ⟨rfl, rfl⟩ ev_nil ev_nil ⟨rfl, rfl⟩).trans (many_ok p2.Q)) (ev_cl1 (ev_var (i := 2) (x := .loc q) rfl) (z := .int (due.length : Nat)) ?_) ?_)
    · simp only [lenF, seqOf, lstOf, p2.D]; rw [List.length_map]; rfl
    · rw [p2.P.length_eq]; exact eq_refl _ h2 rfl rfl
  · rw [decide_eq_false hj] at cg
    obtain ⟨h', l', due', e, a, b, c, d⟩ := clear_deed S2.d p2 hz k
    refine ⟨h', l', due', fn_rt ?_, a, b, c, (Fm.ofS SS).trans d⟩
    refine (start _).trans ((s4 _ _).trans ((s7 _ _).trans ((s8 _ _).trans ?_)))
    refine (sv_seq (σ' := sd n q k (some (.lst ((srt due).map En.w))) none none) (h1 := h2) ((sv_if cg).trans ?_)).trans e
    rw [if_neg (by decide)]; rfl
end K31
set_option Elab.async false
set_option linter.all false
set_option maxRecDepth 100000
set_option maxHeartbeats 1000000
/-! Queues, part 8: queues made, rows copied, queues emptied. -/
namespace K31
open Dn PySem
theorem srt_srt (l : List En) : srt (srt l) = srt l := srt_perm (List.mergeSort_perm l _)
theorem srt_heap (l : List En) : HeapL (srt l) := by
  intro i i0 il
  have pw := srt_pw l
  rw [List.pairwise_iff_getElem] at pw
  rw [g_eq il, g_eq (show (i - 1) / 2 < (srt l).length by omega)]
  exact pw _ _ _ _ (by omega)
theorem init_ok {h : AH} {x : W} {l : List En} (hx : seqOf (h ++ [.ins 2 []]) x = some (l.map En.w)) : f_Queue___init__ [.loc h.length, x] (h ++ [.ins 2 []]) = .ok .non (h ++ [.ins 2 [(1, .loc (h.length + 1))], .lst ((srt l).map En.w)]) := by
  refine fn_nx (σ := [some (.loc h.length), some x]) ?_
  show b_Queue___init__ [some (.loc h.length), some x] _ = _
  have e1 : dCl (sortF true) (dCons (dVar 1) dNil) [some (.loc h.length), some x] (h ++ [.ins 2 []]) = .ok (.loc (h.length + 1)) (h ++ [.ins 2 []] ++ [.lst ((srt l).map En.w)]) := by
    refine ev_cl1 (ev_var rfl) ?_
    simp only [sortF, hx]
    rw [if_pos (sortOk_map l), sort_map]
    simp only [newL, if_pos, List.length_append, List.length_singleton]
  have hl : (h ++ [.ins 2 []] ++ [.lst ((srt l).map En.w)])[h.length]? = some (.ins 2 []) := by
    rw [List.append_assoc, List.getElem?_append_right (Nat.le_refl _), Nat.sub_self]; rfl
  unfold b_Queue___init__ dSetA
  rw [e1]
  simp only [R.toS]
  rw [ev_var (x := .loc h.length) rfl]
  simp only [sfF, hl]
  rw [if_pos ⟨by rfl, by decide⟩]
  simp only []
  congr 1
  rw [List.append_assoc, List.set_append_right _ _ (Nat.le_refl _), Nat.sub_self]
  rfl
theorem make_at {h : AH} {l : List En} : QAt (h ++ [.ins 2 [(1, .loc (h.length + 1))], .lst ((srt l).map En.w)]) h.length (h.length + 1) (srt l) :=
  ⟨by rw [List.getElem?_append_right (Nat.le_refl _), Nat.sub_self]; rfl, by rw [List.getElem?_append_right (by omega), Nat.add_sub_cancel_left]; rfl⟩
theorem make_kw {σ : Ev} {h : AH} {d : Den} {x : W} {l : List En} (hd : d σ h = .ok x h) (hx : seqOf (h ++ [.ins 2 []]) x = some (l.map En.w)) : dMake f_Queue___init__ 2 0 1 [0, 1] [] dNil (dCons d dNil) σ h = .ok (.loc h.length) (h ++ [.ins 2 [(1, .loc (h.length + 1))], .lst ((srt l).map En.w)]) := by
  unfold dMake
  rw [ev_nil]
  simp only [R.andThen]
  rw [ev_cons hd ev_nil]
  simp only []
  rw [if_pos ⟨rfl, rfl⟩]
  rw [show pick [0, 1] (W.loc h.length :: [] ++ [x] ++ []) = [.loc h.length, x] from rfl, init_ok hx]
theorem make_ps {σ : Ev} {h : AH} {d : Den} {x : W} {l : List En} (hd : d σ h = .ok x h) (hx : seqOf (h ++ [.ins 2 []]) x = some (l.map En.w)) : dMake f_Queue___init__ 2 1 0 [0, 1] [] (dCons d dNil) dNil σ h = .ok (.loc h.length) (h ++ [.ins 2 [(1, .loc (h.length + 1))], .lst ((srt l).map En.w)]) := by
  unfold dMake
  rw [ev_cons hd ev_nil]
  simp only [R.andThen]
  rw [ev_nil]
  simp only []
  rw [if_pos ⟨rfl, rfl⟩]
  rw [show pick [0, 1] (W.loc h.length :: [x] ++ [] ++ []) = [.loc h.length, x] from rfl, init_ok hx]
/-- a copy of a row -/
theorem copy_ok {σ : Ev} {h : AH} {es : List En} (hs : σ[2]? = some (some (.lst (es.map En.w)))) (h4 : 4 < σ.length) (hz : es.length ≤ 1000) : dLc true (dSq (dVar 2)) (.one 4) [4] none (dVar 4) σ h = .ok (.loc h.length) (h ++ [.lst (es.map En.w)]) := by
  obtain ⟨acc, h', e1, ha, rfl⟩ := ev_lc (m := true) (src := dSq (dVar 2)) (tg := .one 4) (vs := [4]) (c := none) (e := dVar 4) (σ := σ) (h := h) (fun i acc h' => acc = (es.map En.w).take i ∧ h' = h) (sq_lst (ev_var hs)) ⟨rfl, rfl⟩ (fun i x acc h' hx ⟨ha, hh⟩ => by
    subst ha hh
    have hi := (List.getElem?_eq_some_iff.mp hx).1
    rw [List.length_map] at hi
    refine ⟨_, _, turn_one (y := x) (h1 := h') (ev_var ?_) (by rw [List.length_take]; omega), ?_, rfl⟩
    · show ((σ.set 4 none).set 4 (some x))[4]? = _
      rw [List.getElem?_set_self (by rw [List.length_set]; exact h4)]
    · rw [List.take_add_one, hx]; rfl)
  rw [List.take_of_length_le (Nat.le_refl _)] at ha
  rw [e1, ha]; rfl
/-- emptied, one by one -/
def drB2 : SDen := (dIfS (dOr (dOp (eqF true) (dCall f__law_least 2 0 [0, 1] [] (dCons (dOp ixF (dVar 5) (dCst (.int 0))) (dCons (dCst (.bl false)) dNil)) dNil) (dVar 11)) (dOp (eqF true) (dCall f__law_least 2 0 [0, 1] [] (dCons (dOp ixF (dVar 5) (dCst (.int 0))) (dCons (dCst (.bl true)) dNil)) dNil) (dVar 11))) (dRet (dCst (.bl false))) dNext)
theorem q0_ok {σ : Ev} {h : AH} {n : Nat} {y : W} (hs : σ[5]? = some (some (.lst [.loc n, y]))) : dOp ixF (dVar 5) (dCst (.int 0)) σ h = .ok (.loc n) h := ev_op0 (ev_var hs) ev_cst rfl
theorem lq_ok {σ : Ev} {h : AH} {n m : Nat} {y : W} {l : List En} (b : Bool) (hs : σ[5]? = some (some (.lst [.loc n, y]))) (Q : QAt h n m l) (h0 : 0 < l.length) (hz : l.length < 1000000) : dCall f__law_least 2 0 [0, 1] [] (dCons (dOp ixF (dVar 5) (dCst (.int 0))) (dCons (dCst (.bl b)) dNil)) dNil σ h = .ok (g l 0).w (if b then h.set m (.lst ((tk l).map En.w)) else h) :=
  (ev_call (xs := [.loc n, .bl b]) (ys := []) (ev_cons (q0_ok hs) (ev_cons ev_cst ev_nil)) ev_nil ⟨rfl, rfl⟩).trans (least_ok b Q h0 hz)
theorem lq_non {σ : Ev} {h : AH} {n m : Nat} {y : W} (b : Bool) (hs : σ[5]? = some (some (.lst [.loc n, y]))) (Q : QAt h n m []) : dCall f__law_least 2 0 [0, 1] [] (dCons (dOp ixF (dVar 5) (dCst (.int 0))) (dCons (dCst (.bl b)) dNil)) dNil σ h = .ok .non h :=
  (ev_call (xs := [.loc n, .bl b]) (ys := []) (ev_cons (q0_ok hs) (ev_cons ev_cst ev_nil)) ev_nil ⟨rfl, rfl⟩).trans (least_non b Q)
theorem drain_ok {σ : Ev} {h : AH} {n m : Nat} {y : W} {l : List En} {d : IDen} (hl : 11 < σ.length) (hs : σ[5]? = some (some (.lst [.loc n, y]))) (Q : QAt h n m l) (H : HeapL l) (hz : l.length < 100000) (hd : d σ h = .ok (fun _ => some ((srt l).map En.w)) h) :
    ∃ σ' h', dFor d (gN 11) drB2 σ h = .nx σ' h' ∧ QAt h' n m [] ∧ h'.length = h.length ∧ (∀ i, i ≠ m → h'[i]? = h[i]?) ∧ ∃ x, σ' = σ.set 11 x := by
  have sl : (srt l).length = l.length := (List.mergeSort_perm l _).length_eq
  obtain ⟨σ', h', e, P⟩ := for_ok (d := d) (g := gN 11) (b := drB2) (σ := σ) (h := h) (fun i σ' h' => ∃ l', srt l = (srt l).take i ++ srt l' ∧ HeapL l' ∧ QAt h' n m l' ∧ h'.length = h.length ∧ (∀ j, j ≠ m → h'[j]? = h[j]?) ∧ ∃ x, σ' = σ.set 11 x) hd
    ⟨l, by simp, H, Q, rfl, fun _ _ => rfl, ⟨σ[11], by simp⟩⟩ (fun i x σ1 h1 hx ⟨l', a, b, c, dl, dk, z, hσ⟩ => by
      subst hσ
      rw [List.getElem?_map] at hx
      have hi : i < (srt l).length := by
        cases q : (srt l)[i]? with
        | none => rw [q] at hx; cases hx
        | some _ => exact (List.getElem?_eq_some_iff.mp q).1
      have le : (srt l').length = l'.length := (List.mergeSort_perm l' _).length_eq
      have len : (srt l).length = i + l'.length := by
        have := congrArg List.length a
        rw [List.length_append, List.length_take, le, Nat.min_eq_left (Nat.le_of_lt hi)] at this
        exact this
      have h0 : 0 < l'.length := by omega
      have hd2 := tk_srt b h0
      have at_ : (srt l)[i]? = some (g l' 0) := by
        rw [a, List.getElem?_append_right (by rw [List.length_take]; omega), List.length_take, Nat.min_eq_left (Nat.le_of_lt hi), Nat.sub_self, hd2]; rfl
      rw [at_] at hx
      obtain rfl : (g l' 0).w = x := Option.some.inj hx
      obtain ⟨Ht, Pt⟩ := tk_heap b h0
      have s5 : ((σ.set 11 z).set 11 (some (g l' 0).w))[5]? = some (some (.lst [.loc n, y])) := by
        rw [List.set_set, List.getElem?_set_ne (by decide)]; exact hs
      have s11 : ((σ.set 11 z).set 11 (some (g l' 0).w))[11]? = some (some (g l' 0).w) := by
        rw [List.set_set, List.getElem?_set_self hl]
      refine ⟨_, h1, (σ.set 11 z).set 11 (some (g l' 0).w), h1.set m (.lst ((tk l').map En.w)), rfl, ?_, tk l', ?_, Ht, c.wr, by rw [List.length_set, dl], fun j hj => by rw [h_set, if_neg hj.symm]; exact dk j hj, ⟨_, List.set_set ..⟩⟩
      · have c1 := ev_dT (ev_or_f (b := dOp (eqF true) (dCall f__law_least 2 0 [0, 1] [] (dCons (dOp ixF (dVar 5) (dCst (.int 0))) (dCons (dCst (.bl true)) dNil)) dNil) (dVar 11)) (ev_op0 (lq_ok false s5 c h0 (by omega)) (ev_var s11) (eq_w true _ _)) rfl |>.trans (ev_op (lq_ok true s5 c h0 (by omega)) (ev_var s11) (eq_w true _ _))) (k := false) rfl
        refine (sv_if c1).trans ?_
        rw [if_neg (by decide)]; rfl
      · rw [List.take_add_one, at_, List.append_assoc]
        show srt l = (srt l).take i ++ (g l' 0 :: srt (tk l'))
        rw [← hd2]; exact a)
  rw [List.length_map] at P
  obtain ⟨l', a, b, c, dl, dk, x⟩ := P
  have l0 : l' = [] := by
    have := congrArg List.length a
    have le : (srt l').length = l'.length := (List.mergeSort_perm l' _).length_eq
    rw [List.length_append, List.length_take, Nat.min_self] at this
    exact List.eq_nil_of_length_eq_zero (by omega)
  subst l0
  exact ⟨σ', h', e, c, dl, dk, x⟩
end K31
set_option Elab.async false
set_option linter.all false
set_option maxRecDepth 100000
set_option maxHeartbeats 2000000
/-! Queues, part 9: the law. -/
namespace K31
open Dn PySem
theorem Pr.fm {h h' : AH} {n m q m' q' : Nat} {l due : List En} (p : Pr h n m q l due) (F : Fm h h' m' q') (a : n ≠ m' ∧ n ≠ q' ∧ m ≠ m' ∧ m ≠ q' ∧ q ≠ m' ∧ q ≠ q') : Pr h' n m q l due := by
  have ln := (List.getElem?_eq_some_iff.mp p.Q.q).1
  have lm := p.Q.lt
  have lq := p.lq
  obtain ⟨a1, a2, a3, a4, a5, a6⟩ := a
  exact ⟨⟨by rw [F.k _ p.n2 ln a1 a2]; exact p.Q.q, by rw [F.k _ p.m2 lm a3 a4]; exact p.Q.r⟩, by rw [F.k _ p.q2 lq a5 a6]; exact p.D, p.H, p.P, p.qm, p.qn, p.n2, p.m2, p.q2⟩
/-- the slots of the law -/
abbrev S12 (s st x3 x4 x5 x11 : Option W) (a b c d e : W) : Ev := [s, some (.loc 1), st, x3, x4, x5, some a, some b, some c, some d, some e, x11]
theorem ne_false {σ : Ev} {h h1 h2 : AH} {da db : Den} {x : W} (ha : da σ h = .ok x h1) (hb : db σ h1 = .ok x h2) (hx : okD 60 x = true) (hv : vw h2 x = x) : dOp (eqF true) da db σ h = .ok (.bl false) h2 := by
  refine ev_op ha hb ?_
  unfold eqF
  rw [hv, if_pos ⟨hx, hx⟩, eqW_refl 60 x hx]; rfl
theorem eq_true {σ : Ev} {h h1 h2 : AH} {da db : Den} {x : W} (ha : da σ h = .ok x h1) (hb : db σ h1 = .ok x h2) (hx : okD 60 x = true) (hv : vw h2 x = x) : dOp (eqF false) da db σ h = .ok (.bl true) h2 := by
  refine ev_op ha hb ?_
  unfold eqF
  rw [hv, if_pos ⟨hx, hx⟩, eqW_refl 60 x hx]; rfl
theorem dn_ok {σ : Ev} {h : AH} {n m q i j : Nat} {l due : List En} (D : DA h) (p : Pr h n m q l due) (hz : due.length < 100000) (h1 : σ[1]? = some (some (.loc 1))) (hi : σ[i]? = some (some (.loc n))) (hj : σ[j]? = some (some (.loc q))) :
    ∃ (h' : AH) (l' due' : List En), dNot (dCall f__law_deed 3 0 [0, 1, 2] [] (dCons (dVar 1) (dCons (dVar i) (dCons (dVar j) dNil))) dNil) σ h = .ok (.bl false) h' ∧ DA h' ∧ Pr h' n m q l' due' ∧ due'.length ≤ due.length + 1 ∧ Fm h h' m q := by
  obtain ⟨h', l', due', e, a, b, c, d⟩ := deed_ok D p hz
  exact ⟨h', l', due', ev_not (k := true) (x := .bl true) ((ev_call (xs := [.loc 1, .loc n, .loc q]) (ys := []) (ev_cons (ev_var h1) (ev_cons (ev_var hi) (ev_cons (ev_var hj) ev_nil))) ev_nil ⟨rfl, rfl⟩).trans e) rfl, a, b, c, d⟩
theorem hm_ok {σ : Ev} {h : AH} {n m i : Nat} {l : List En} (Q : QAt h n m l) (hi : σ[i]? = some (some (.loc n))) : dMeth f_Queue_how_many [2] 8 0 0 [0] [] (dVar i) dNil dNil σ h = .ok (.int (l.length : Nat)) h :=
  (ev_meth (xs := []) (ys := []) (ev_var hi) Q.q ⟨rfl, rfl⟩ ev_nil ev_nil ⟨rfl, rfl⟩).trans (many_ok Q)
theorem ld_ok {σ : Ev} {h : AH} {n m i : Nat} {l : List En} (Q : QAt h n m l) (hi : σ[i]? = some (some (.loc n))) : dMeth f_Queue_listed [2] 7 0 0 [0] [] (dVar i) dNil dNil σ h = .ok (.tup ((srt l).map En.w)) h :=
  (ev_meth (xs := []) (ys := []) (ev_var hi) Q.q ⟨rfl, rfl⟩ ev_nil ev_nil ⟨rfl, rfl⟩).trans (listed_ok Q)
theorem len_ok {σ : Ev} {h : AH} {q j : Nat} {l : List En} (hq : h[q]? = some (.lst (l.map En.w))) (hj : σ[j]? = some (some (.loc q))) : dCl lenF (dCons (dVar j) dNil) σ h = .ok (.int (l.length : Nat)) h :=
  ev_cl1 (ev_var hj) (by simp only [lenF, seqOf, lstOf, hq]; rw [List.length_map]; rfl)
/-! one turn of the law's loop -/
def turnC : SDen := (dSeq (dIfS (dOr (dNot (dCall f__law_deed 3 0 [0, 1, 2] [] (dCons (dVar 1) (dCons (dVar 9) (dCons (dVar 7) dNil))) dNil)) (dNot (dCall f__law_deed 3 0 [0, 1, 2] [] (dCons (dVar 1) (dCons (dVar 10) (dCons (dVar 8) dNil))) dNil))) (dRet (dCst (.bl false))) dNext)
  (dIfS (dOr (dOp (eqF true) (dMeth f_Queue_how_many [2] 8 0 0 [0] [] (dVar 9) dNil dNil) (dCl lenF (dCons (dVar 7) dNil))) (dOr (dUn (isiF "bool") (dMeth f_Queue_how_many [2] 8 0 0 [0] [] (dVar 9) dNil dNil)) (dNot (dUn (isiF "tuple") (dMeth f_Queue_listed [2] 7 0 0 [0] [] (dVar 9) dNil dNil))))) (dRet (dCst (.bl false))) dNext))
structure Two (h : AH) (b : Nat) : Prop where
  D : DA h
  p : ∃ l due, Pr h 5 6 3 l due ∧ due.length ≤ b
  r : ∃ l due, Pr h 7 8 4 l due ∧ due.length ≤ b
theorem turn_ok' {h : AH} {b : Nat} {σ : Ev} (T : Two h b) (hb : b < 99999) (s1 : σ[1]? = some (some (.loc 1))) (s7 : σ[7]? = some (some (.loc 3))) (s8 : σ[8]? = some (some (.loc 4))) (s9 : σ[9]? = some (some (.loc 5))) (s10 : σ[10]? = some (some (.loc 7))) : ∃ h', turnC σ h = .nx σ h' ∧ Two h' (b + 1) := by
  obtain ⟨l1, d1, p1, z1⟩ := T.p
  obtain ⟨l2, d2, p2, z2⟩ := T.r
  obtain ⟨h1, l1', d1', e1, D1, q1, y1, F1⟩ := dn_ok (σ := σ) (i := 9) (j := 7) T.D p1 (by omega) s1 s9 s7
  have p2' := p2.fm F1 (by decide)
  obtain ⟨h2, l2', d2', e2, D2, q2, y2, F2⟩ := dn_ok (σ := σ) (i := 10) (j := 8) D1 p2' (by omega) s1 s10 s8
  have q1' := q1.fm F2 (by decide)
  refine ⟨h2, ?_, D2, ⟨_, _, q1', by omega⟩, ⟨_, _, q2, by omega⟩⟩
  have c1 := ev_dT ((ev_or_f e1 rfl).trans e2) (k := false) rfl
  refine (sv_seq (σ' := σ) (h1 := h2) ((sv_if c1).trans ?_)).trans ?_
  · rw [if_neg (by decide)]; rfl
  have f1 : dOp (eqF true) (dMeth f_Queue_how_many [2] 8 0 0 [0] [] (dVar 9) dNil dNil) (dCl lenF (dCons (dVar 7) dNil)) σ h2 = .ok (.bl false) h2 := by
    refine ne_false (hm_ok q1'.Q s9) ?_ rfl rfl
    rw [q1'.P.length_eq]; exact len_ok q1'.D s7
  have f2 : dUn (isiF "bool") (dMeth f_Queue_how_many [2] 8 0 0 [0] [] (dVar 9) dNil dNil) σ h2 = .ok (.bl false) h2 := ev_un (hm_ok q1'.Q s9) rfl
  have f3 : dNot (dUn (isiF "tuple") (dMeth f_Queue_listed [2] 7 0 0 [0] [] (dVar 9) dNil dNil)) σ h2 = .ok (.bl false) h2 := ev_not (ev_un (z := .bl true) (ld_ok q1'.Q s9) rfl) rfl
  have c2 := ev_dT (((ev_or_f f1 rfl).trans ((ev_or_f f2 rfl).trans f3))) (k := false) rfl
  refine (sv_if c2).trans ?_
  rw [if_neg (by decide)]; rfl
/-! one queue emptied at the end -/
def endC : SDen := (dSeq (dFor (dSq (dCl (sortF false) (dCons (dOp ixF (dVar 5) (dCst (.int 1))) dNil))) (gN 11) drB2)
  (dIfS (dOr (dOp (isF true) (dCall f__law_least 2 0 [0, 1] [] (dCons (dOp ixF (dVar 5) (dCst (.int 0))) (dCons (dCst (.bl true)) dNil)) dNil) (dCst .non)) (dOp (isF true) (dCall f__law_least 2 0 [0, 1] [] (dCons (dOp ixF (dVar 5) (dCst (.int 0))) (dCons (dCst (.bl false)) dNil)) dNil) (dCst .non))) (dRet (dCst (.bl false))) dNext))
theorem end_ok {σ : Ev} {h : AH} {n m : Nat} {y : W} {l due : List En} (hl : 11 < σ.length) (hs : σ[5]? = some (some (.lst [.loc n, y]))) (Q : QAt h n m l) (H : HeapL l) (P : l.Perm due) (hz : l.length < 100000) (hy : seqOf h y = some (due.map En.w)) :
    ∃ σ' h', endC σ h = .nx σ' h' ∧ QAt h' n m [] ∧ h'.length = h.length ∧ (∀ i, i ≠ m → h'[i]? = h[i]?) ∧ ∃ x, σ' = σ.set 11 x := by
  have y1 : dOp ixF (dVar 5) (dCst (.int 1)) σ h = .ok y h := ev_op0 (ev_var hs) ev_cst rfl
  have sd' : dSq (dCl (sortF false) (dCons (dOp ixF (dVar 5) (dCst (.int 1))) dNil)) σ h = .ok (fun _ => some ((srt l).map En.w)) h := by
    refine sq_lst (ev_cl1 y1 ?_)
    simp only [sortF, hy]
    rw [if_pos (sortOk_map due), sort_map, srt_perm P]; rfl
  obtain ⟨σ', h', e, a, b, c, x, d⟩ := drain_ok hl hs Q H hz sd'
  have s5 : σ'[5]? = some (some (.lst [.loc n, y])) := by rw [d, List.getElem?_set_ne (by decide)]; exact hs
  refine ⟨σ', h', (sv_seq e).trans ?_, a, b, c, x, d⟩
  have g1 : dOp (isF true) (dCall f__law_least 2 0 [0, 1] [] (dCons (dOp ixF (dVar 5) (dCst (.int 0))) (dCons (dCst (.bl true)) dNil)) dNil) (dCst .non) σ' h' = .ok (.bl false) h' := ev_op0 (lq_non true s5 a) ev_cst rfl
  have g2 : dOp (isF true) (dCall f__law_least 2 0 [0, 1] [] (dCons (dOp ixF (dVar 5) (dCst (.int 0))) (dCons (dCst (.bl false)) dNil)) dNil) (dCst .non) σ' h' = .ok (.bl false) h' := ev_op0 (lq_non false s5 a) ev_cst rfl
  refine (sv_if (ev_dT ((ev_or_f g1 rfl).trans g2) (k := false) rfl)).trans ?_
  rw [if_neg (by decide)]; rfl
theorem dr_at {σ : Ev} {h : AH} {dm : Den} {m : Int} {i : Nat} (hs : σ[i]? = some (some (.loc 1))) (D : DA h) (hd : dm σ h = .ok (.int m) h) (h0 : 0 < m) (h1 : m < 1073741824) :
    ∃ k h', dCall f__law_draw 2 0 [0, 1] [] (dCons (dVar i) (dCons dm dNil)) dNil σ h = .ok (.int k) h' ∧ 0 ≤ k ∧ k < m ∧ Stp h h' := by
  obtain ⟨cs, st, D⟩ := D
  obtain ⟨k, h', e, k0, k1, S⟩ := draw_ok D h0 h1
  exact ⟨k, h', (ev_call (ev_cons (ev_var hs) (ev_cons hd ev_nil)) ev_nil ⟨rfl, rfl⟩).trans e, k0, k1, S⟩
theorem en_at {σ : Ev} {h : AH} {i : Nat} (hs : σ[i]? = some (some (.loc 1))) (D : DA h) : ∃ (e : En) (h' : AH), dCall f__law_entry 1 0 [0] [] (dCons (dVar i) dNil) dNil σ h = .ok e.w h' ∧ Stp h h' := by
  obtain ⟨e, h', q, S⟩ := entry_ok D
  exact ⟨e, h', (ev_call (ev_cons (ev_var hs) ev_nil) ev_nil ⟨rfl, rfl⟩).trans q, S⟩
theorem sort_lst {σ : Ev} {h : AH} {d : Den} {l : List En} (hd : d σ h = .ok (.lst (l.map En.w)) h) : dCl (sortF false) (dCons d dNil) σ h = .ok (.lst ((srt l).map En.w)) h := by
  refine ev_cl1 hd ?_
  simp only [sortF, seqOf, lstOf]
  rw [if_pos (sortOk_map l), sort_map]; rfl
theorem small_int {k : Int} (h0 : 0 ≤ k) (h1 : k < 1000) : smI k = true := by
  unfold smI; exact decide_eq_true (by omega)
/-- the drawn start -/
theorem start_ok {h : AH} {σ : Ev} (D : DA h) (hl : h.length = 2) (hs : σ[1]? = some (some (.loc 1))) (h3 : 3 < σ.length) : ∃ (es : List En) (h' : AH), dLc false (dRng (dCons (dCall f__law_draw 2 0 [0, 1] [] (dCons (dVar 1) (dCons (dCst (.int 11)) dNil)) dNil) dNil)) (.one 3) [3] none (dCall f__law_entry 1 0 [0] [] (dCons (dVar 1) dNil) dNil) σ h = .ok (.lst (es.map En.w)) h' ∧ es.length ≤ 10 ∧ DA h' ∧ h'.length = 2 := by
  obtain ⟨k, h1, e1, k0, k1, S⟩ := dr_at (σ := σ) (dm := dCst (.int 11)) (i := 1) hs D ev_cst (by decide) (by decide)
  obtain ⟨acc, h2, e2, es, rfl, hes, D2, l2⟩ := ev_lc (m := false) (src := dRng (dCons (dCall f__law_draw 2 0 [0, 1] [] (dCons (dVar 1) (dCons (dCst (.int 11)) dNil)) dNil) dNil)) (tg := .one 3) (vs := [3]) (c := none) (e := dCall f__law_entry 1 0 [0] [] (dCons (dVar 1) dNil) dNil) (σ := σ) (h := h)
    (fun i acc h => ∃ es : List En, acc = es.map En.w ∧ es.length = i ∧ DA h ∧ h.length = 2) (rng1 e1 (small_int k0 (by omega))) ⟨[], rfl, rfl, S.d, by rw [S.l]; exact hl⟩ (fun i x acc h hx ⟨es, ha, hes, D, hl⟩ => by
      subst ha
      have hi := (List.getElem?_eq_some_iff.mp hx).1
      rw [rngW_len] at hi
      obtain ⟨e, h', q, S⟩ := en_at (σ := (wipeW σ [3]).set 3 (some x)) (i := 1) (by show ((σ.set 3 none).set 3 (some x))[1]? = _; rw [List.set_set, List.getElem?_set_ne (by decide)]; exact hs) D
      exact ⟨_, _, turn_one q (by rw [List.length_map]; omega), es ++ [e], by rw [List.map_append]; rfl, by rw [List.length_append, hes]; rfl, S.d, by rw [S.l]; exact hl⟩)
  rw [rngW_len] at hes
  exact ⟨es, h2, e2.trans rfl, by omega, D2, l2⟩
theorem srt_len (l : List En) : (srt l).length = l.length := (List.mergeSort_perm l _).length_eq
theorem len_lst {σ : Ev} {h : AH} {d : Den} {l : List En} (hd : d σ h = .ok (.lst (l.map En.w)) h) : dCl lenF (dCons d dNil) σ h = .ok (.int (l.length : Nat)) h :=
  ev_cl1 (f := lenF) (z := .int (l.length : Nat)) hd (by simp only [lenF, seqOf, lstOf]; rw [List.length_map]; rfl)
theorem two_of {h : AH} (hl : h.length = 2) : ∃ a b, h = [a, b] := by
  match h, hl with
  | [a, b], _ => exact ⟨a, b, rfl⟩
theorem the_law (ns : List Int) (hn : ns.length ≤ 63) : ∃ h', f_law [.lst (ns.map W.int)] [] = .ok (.bl true) h' := by
  suffices hh : ∃ h', b_law [some (.lst (ns.map W.int)), none, none, none, none, none, none, none, none, none, none, none] [] = .rt (.bl true) h' by
    obtain ⟨h', e⟩ := hh
    exact ⟨h', fn_rt e⟩
  obtain ⟨cs, st, e1, hz1⟩ := heap_ok ns
  have D1 : DA [.lst (cs.map W.int), .lst [.loc 0, .int st]] := ⟨cs, st, rfl, rfl, hz1⟩
  obtain ⟨es, h2, e2, hes, D2, l2⟩ := start_ok (σ := [some (.lst (ns.map W.int)), some (.loc 1), none, none, none, none, none, none, none, none, none, none]) D1 rfl rfl (by show 3 < 12; decide)
  obtain ⟨a, b, rfl⟩ := two_of l2
  have q1 : b_law [some (.lst (ns.map W.int)), none, none, none, none, none, none, none, none, none, none, none] [] = _ := (sv_seq (sv_set ((ev_call (xs := [.lst (ns.map W.int)]) (ys := []) (ev_cons (ev_var rfl) ev_nil) ev_nil ⟨rfl, rfl⟩).trans e1))).trans (sv_seq (sv_set e2))
  rw [q1]
  clear q1
  show ∃ h', (dSeq _ _) [some (.lst (ns.map W.int)), some (.loc 1), some (.lst (es.map En.w)), none, none, none, none, none, none, none, none, none] [a, b] = S.rt (.bl true) h'
  -- the rows copied
  have q2 : (dPar [6, 7, 8] (dCons (dLc true (dSq (dVar 2)) (.one 4) [4] none (dVar 4)) (dCons (dLc true (dSq (dVar 2)) (.one 4) [4] none (dVar 4)) (dCons (dLst true dNil) dNil)))) [some (.lst (ns.map W.int)), some (.loc 1), some (.lst (es.map En.w)), none, none, none, none, none, none, none, none, none] [a, b] =
      .nx [some (.lst (ns.map W.int)), some (.loc 1), some (.lst (es.map En.w)), none, none, none, some (.loc 2), some (.loc 3), some (.loc 4), none, none, none] [a, b, .lst (es.map En.w), .lst (es.map En.w), .lst []] :=
    (sv_par (xs := [.loc 2, .loc 3, .loc 4]) (ev_cons (copy_ok (es := es) rfl (by show 4 < 12; decide) (by omega)) (ev_cons (copy_ok (es := es) rfl (by show 4 < 12; decide) (by omega)) (ev_cons (ev_lstT ev_nil (by decide)) ev_nil))) rfl).trans rfl
  have q3 : (dPar [9, 10] (dCons (dMake f_Queue___init__ 2 0 1 [0, 1] [] dNil (dCons (dVar 6) dNil)) (dCons (dMake f_Queue___init__ 2 1 0 [0, 1] [] (dCons (dTup dNil) dNil) dNil) dNil))) [some (.lst (ns.map W.int)), some (.loc 1), some (.lst (es.map En.w)), none, none, none, some (.loc 2), some (.loc 3), some (.loc 4), none, none, none] [a, b, .lst (es.map En.w), .lst (es.map En.w), .lst []] =
      .nx (S12 (some (.lst (ns.map W.int))) (some (.lst (es.map En.w))) none none none none (.loc 2) (.loc 3) (.loc 4) (.loc 5) (.loc 7)) [a, b, .lst (es.map En.w), .lst (es.map En.w), .lst [], .ins 2 [(1, .loc 6)], .lst ((srt es).map En.w), .ins 2 [(1, .loc 8)], .lst ((srt []).map En.w)] :=
    (sv_par (xs := [.loc 5, .loc 7]) (ev_cons (make_kw (x := .loc 2) (l := es) (ev_var rfl) rfl) (ev_cons (make_ps (x := .tup []) (l := []) (ev_tup ev_nil (by decide)) rfl) ev_nil)) rfl).trans rfl
  have tup2 : ∀ (σ : Ev) (h : AH), σ[2]? = some (some (.lst (es.map En.w))) → dCl tupleF (dCons (dVar 2) dNil) σ h = .ok (.tup (es.map En.w)) h := fun σ h hs => ev_cl1 (ev_var hs) rfl
  have q4 : ∀ h : AH, ∃ X Y, (dIfS (dOr (dOp (eqF true) (dMeth f_Queue_listed [2] 7 0 0 [0] [] (dMake f_Queue___init__ 2 1 0 [0, 1] [] (dCons (dCl tupleF (dCons (dVar 2) dNil)) dNil) dNil) dNil dNil) (dCl tupleF (dCons (dCl (sortF false) (dCons (dVar 2) dNil)) dNil))) (dOp (eqF true) (dMeth f_Queue_how_many [2] 8 0 0 [0] [] (dMake f_Queue___init__ 2 1 0 [0, 1] [] (dCons (dCl tupleF (dCons (dVar 2) dNil)) dNil) dNil) dNil dNil) (dCl lenF (dCons (dVar 2) dNil)))) (dRet (dCst (.bl false))) dNext)
      (S12 (some (.lst (ns.map W.int))) (some (.lst (es.map En.w))) none none none none (.loc 2) (.loc 3) (.loc 4) (.loc 5) (.loc 7)) h = .nx (S12 (some (.lst (ns.map W.int))) (some (.lst (es.map En.w))) none none none none (.loc 2) (.loc 3) (.loc 4) (.loc 5) (.loc 7)) (h ++ X ++ Y) := fun h => by
    have m1 := make_ps (σ := S12 (some (.lst (ns.map W.int))) (some (.lst (es.map En.w))) none none none none (.loc 2) (.loc 3) (.loc 4) (.loc 5) (.loc 7)) (h := h) (l := es) (tup2 _ _ rfl) rfl
    have m2 := make_ps (σ := S12 (some (.lst (ns.map W.int))) (some (.lst (es.map En.w))) none none none none (.loc 2) (.loc 3) (.loc 4) (.loc 5) (.loc 7)) (h := h ++ [.ins 2 [(1, .loc (h.length + 1))], .lst ((srt es).map En.w)]) (l := es) (tup2 _ _ rfl) rfl
    have c1 := (ev_meth (cs := [2]) (mth := 7) (n := 0) (m := 0) (pm := [0]) (dw := []) (fn := f_Queue_listed) (as := dNil) (bs := dNil) (xs := []) (ys := []) m1 make_at.q ⟨rfl, rfl⟩ ev_nil ev_nil ⟨rfl, rfl⟩).trans (listed_ok make_at)
    rw [srt_srt] at c1
    have c2 := (ev_meth (cs := [2]) (mth := 8) (n := 0) (m := 0) (pm := [0]) (dw := []) (fn := f_Queue_how_many) (as := dNil) (bs := dNil) (xs := []) (ys := []) m2 make_at.q ⟨rfl, rfl⟩ ev_nil ev_nil ⟨rfl, rfl⟩).trans (many_ok make_at)
    have g1 := ne_false c1 (ev_cl1 (f := tupleF) (z := .tup ((srt es).map En.w)) (sort_lst (d := dVar 2) (l := es) (ev_var rfl)) rfl) (okD_row (srt es)) rfl
    rw [srt_len] at c2
    have g2 := ne_false c2 (len_lst (d := dVar 2) (l := es) (ev_var rfl)) rfl rfl
    refine ⟨[.ins 2 [(1, .loc (h.length + 1))], .lst ((srt es).map En.w)], [.ins 2 [(1, .loc ((h ++ [AO.ins 2 [(1, .loc (h.length + 1))], AO.lst ((srt es).map En.w)]).length + 1))], .lst ((srt es).map En.w)], (sv_if (ev_dT ((ev_or_f g1 rfl).trans g2) (k := false) rfl)).trans ?_⟩
    rw [if_neg (by decide)]; rfl
  obtain ⟨X, Y, q4⟩ := q4 [a, b, .lst (es.map En.w), .lst (es.map En.w), .lst [], .ins 2 [(1, .loc 6)], .lst ((srt es).map En.w), .ins 2 [(1, .loc 8)], .lst ((srt []).map En.w)]
  have q5 : (dIfS (dOr (dOp (eqF true) (dCl (sortF false) (dCons (dVar 6) dNil)) (dCl (sortF false) (dCons (dVar 2) dNil))) (dOp (eqF true) (dVar 6) (dVar 2))) (dRet (dCst (.bl false))) dNext) (S12 (some (.lst (ns.map W.int))) (some (.lst (es.map En.w))) none none none none (.loc 2) (.loc 3) (.loc 4) (.loc 5) (.loc 7)) ([a, b, .lst (es.map En.w), .lst (es.map En.w), .lst [], .ins 2 [(1, .loc 6)], .lst ((srt es).map En.w), .ins 2 [(1, .loc 8)], .lst ((srt []).map En.w)] ++ X ++ Y) =
      .nx (S12 (some (.lst (ns.map W.int))) (some (.lst (es.map En.w))) none none none none (.loc 2) (.loc 3) (.loc 4) (.loc 5) (.loc 7)) ([a, b, .lst (es.map En.w), .lst (es.map En.w), .lst [], .ins 2 [(1, .loc 6)], .lst ((srt es).map En.w), .ins 2 [(1, .loc 8)], .lst ((srt []).map En.w)] ++ X ++ Y) := by
    have g1 := ne_false (sort_loc (σ := S12 (some (.lst (ns.map W.int))) (some (.lst (es.map En.w))) none none none none (.loc 2) (.loc 3) (.loc 4) (.loc 5) (.loc 7)) (h := [a, b, .lst (es.map En.w), .lst (es.map En.w), .lst [], .ins 2 [(1, .loc 6)], .lst ((srt es).map En.w), .ins 2 [(1, .loc 8)], .lst ((srt []).map En.w)] ++ X ++ Y) (d := dVar 6) (m := 2) (l := es) (ev_var rfl) rfl) (sort_lst (d := dVar 2) (l := es) (ev_var rfl)) (okD_row (srt es)) rfl
    have g2 : dOp (eqF true) (dVar 6) (dVar 2) (S12 (some (.lst (ns.map W.int))) (some (.lst (es.map En.w))) none none none none (.loc 2) (.loc 3) (.loc 4) (.loc 5) (.loc 7)) ([a, b, .lst (es.map En.w), .lst (es.map En.w), .lst [], .ins 2 [(1, .loc 6)], .lst ((srt es).map En.w), .ins 2 [(1, .loc 8)], .lst ((srt []).map En.w)] ++ X ++ Y) = .ok (.bl false) ([a, b, .lst (es.map En.w), .lst (es.map En.w), .lst [], .ins 2 [(1, .loc 6)], .lst ((srt es).map En.w), .ins 2 [(1, .loc 8)], .lst ((srt []).map En.w)] ++ X ++ Y) := by
      refine ev_op0 (ev_var rfl) (ev_var rfl) ?_
      unfold eqF
      rw [show vw ([a, b, .lst (es.map En.w), .lst (es.map En.w), .lst [], .ins 2 [(1, .loc 6)], .lst ((srt es).map En.w), .ins 2 [(1, .loc 8)], .lst ((srt []).map En.w)] ++ X ++ Y) (.loc 2) = .lst (es.map En.w) from rfl, show vw ([a, b, .lst (es.map En.w), .lst (es.map En.w), .lst [], .ins 2 [(1, .loc 6)], .lst ((srt es).map En.w), .ins 2 [(1, .loc 8)], .lst ((srt []).map En.w)] ++ X ++ Y) (.lst (es.map En.w)) = .lst (es.map En.w) from rfl, if_pos ⟨okD_row es, okD_row es⟩, eqW_refl 60 _ (okD_row es)]; rfl
    refine (sv_if (ev_dT ((ev_or_f g1 rfl).trans g2) (k := false) rfl)).trans ?_
    rw [if_neg (by decide)]; rfl
  have q6 : (dDrop (dMtL appF (dVar 6) (dCons (dTup (dCons (dUn negF (dOp powF (dCst (.int 10)) (dCst (.int 10)))) (dCons (dCst (.str [108, 111, 116])) (dCons (dCst (.int 0)) dNil)))) dNil))) (S12 (some (.lst (ns.map W.int))) (some (.lst (es.map En.w))) none none none none (.loc 2) (.loc 3) (.loc 4) (.loc 5) (.loc 7)) ([a, b, .lst (es.map En.w), .lst (es.map En.w), .lst [], .ins 2 [(1, .loc 6)], .lst ((srt es).map En.w), .ins 2 [(1, .loc 8)], .lst ((srt []).map En.w)] ++ X ++ Y) =
      .nx (S12 (some (.lst (ns.map W.int))) (some (.lst (es.map En.w))) none none none none (.loc 2) (.loc 3) (.loc 4) (.loc 5) (.loc 7)) (([a, b, .lst (es.map En.w), .lst (es.map En.w), .lst [], .ins 2 [(1, .loc 6)], .lst ((srt es).map En.w), .ins 2 [(1, .loc 8)], .lst ((srt []).map En.w)] ++ X ++ Y).set 2 (.lst (es.map En.w ++ [.tup [.int (-(10 ^ 10)), .str [108, 111, 116], .int 0]]))) := by
    refine sv_drop (x := .non) (ev_mt (x := .loc 2) (ev_var rfl) rfl (ev_cons (ev_tup (ev_cons (ev_un (z := .int (-(10 ^ 10))) (ev_op0 ev_cst ev_cst rfl) rfl) (ev_cons ev_cst (ev_cons ev_cst ev_nil))) (by show 3 ≤ 1000; decide)) ev_nil) ?_)
    show (if (es.map En.w).length < sizeLine then _ else none) = _
    rw [if_pos (by rw [List.length_map]; exact mil (by omega))]; rfl
  rw [sv_seq q2, sv_seq q3, sv_seq q4, sv_seq q5, sv_seq q6]
  clear q2 q3 q4 q5 q6 tup2
  have T0 : Two (([a, b, .lst (es.map En.w), .lst (es.map En.w), .lst [], .ins 2 [(1, .loc 6)], .lst ((srt es).map En.w), .ins 2 [(1, .loc 8)], .lst ((srt []).map En.w)] ++ X ++ Y).set 2 (.lst (es.map En.w ++ [.tup [.int (-(10 ^ 10)), .str [108, 111, 116], .int 0]]))) 10 := by
    obtain ⟨cs2, st2, c1, c2, c3⟩ := D2
    refine ⟨⟨cs2, st2, c1, c2, c3⟩, ⟨srt es, es, ⟨⟨rfl, rfl⟩, rfl, srt_heap es, List.mergeSort_perm es _, by decide, by decide, by decide, by decide, by decide⟩, hes⟩, ⟨srt [], [], ⟨⟨rfl, rfl⟩, rfl, srt_heap [], List.mergeSort_perm [] _, by decide, by decide, by decide, by decide, by decide⟩, by decide⟩⟩
  generalize (([a, b, .lst (es.map En.w), .lst (es.map En.w), .lst [], .ins 2 [(1, .loc 6)], .lst ((srt es).map En.w), .ins 2 [(1, .loc 8)], .lst ((srt []).map En.w)] ++ X ++ Y).set 2 (.lst (es.map En.w ++ [.tup [.int (-(10 ^ 10)), .str [108, 111, 116], .int 0]]))) = H0 at T0 ⊢
  -- the turns
  obtain ⟨k, H1, e7, k0, k31, S7⟩ := dr_at (σ := (S12 (some (.lst (ns.map W.int))) (some (.lst (es.map En.w))) none none none none (.loc 2) (.loc 3) (.loc 4) (.loc 5) (.loc 7))) (dm := dCst (.int 31)) (i := 1) rfl T0.D ev_cst (by decide) (by decide)
  have T1 : Two H1 10 := by
    obtain ⟨l1, d1, p1, z1⟩ := T0.p
    obtain ⟨l2, d2, p2, z2⟩ := T0.r
    exact ⟨S7.d, ⟨_, _, p1.stp S7, z1⟩, ⟨_, _, p2.stp S7, z2⟩⟩
  obtain ⟨σ8, H2, e8, x3, hσ8, T2⟩ := for_ok (d := dRng (dCons (dOp (addF false) (dCst (.int 10)) (dCall f__law_draw 2 0 [0, 1] [] (dCons (dVar 1) (dCons (dCst (.int 31)) dNil)) dNil)) dNil)) (g := gN 3) (b := turnC) (h := H0) (h1 := H1)
    (fun i σ h => ∃ x3, σ = (S12 (some (.lst (ns.map W.int))) (some (.lst (es.map En.w))) x3 none none none (.loc 2) (.loc 3) (.loc 4) (.loc 5) (.loc 7)) ∧ Two h (10 + i))
    (rng1 (n := 10 + k) (ev_op ev_cst e7 rfl) (small_int (by omega) (by omega))) ⟨none, rfl, T1⟩ (fun i x σ h hx ⟨x3, hσ, T⟩ => by
      subst hσ
      have hi := (List.getElem?_eq_some_iff.mp hx).1
      rw [rngW_len] at hi
      obtain ⟨h', e, T'⟩ := turn_ok' (σ := (S12 (some (.lst (ns.map W.int))) (some (.lst (es.map En.w))) (some x) none none none (.loc 2) (.loc 3) (.loc 4) (.loc 5) (.loc 7))) T (by omega) rfl rfl rfl rfl rfl
      exact ⟨_, _, _, _, rfl, e, some x, rfl, T'⟩)
  subst hσ8
  rw [rngW_len] at T2
  refine (fun ⟨h', z⟩ => ⟨h', (sv_seq e8).trans z⟩ : (∃ h', _ = S.rt (.bl true) h') → _) ?_
  obtain ⟨l1, d1, p1, z1⟩ := T2.p
  obtain ⟨l2, d2, p2, z2⟩ := T2.r
  -- one more entry for the other queue
  obtain ⟨e, H3, e9, S9⟩ := en_at (σ := (S12 (some (.lst (ns.map W.int))) (some (.lst (es.map En.w))) x3 none none none (.loc 2) (.loc 3) (.loc 4) (.loc 5) (.loc 7))) (i := 1) rfl T2.D
  have p1 := p1.stp S9
  have p2 := p2.stp S9
  refine (fun ⟨h', z⟩ => ⟨h', (sv_seq (sv_set e9)).trans z⟩ : (∃ h', _ = S.rt (.bl true) h') → _) ?_
  show ∃ h', (dSeq _ _) (S12 (some (.lst (ns.map W.int))) (some (.lst (es.map En.w))) x3 (some e.w) none none (.loc 2) (.loc 3) (.loc 4) (.loc 5) (.loc 7)) H3 = S.rt (.bl true) h'
  obtain ⟨Hp, Pp⟩ := put_heap e p2.H
  have ll2 : l2.length = d2.length := p2.P.length_eq
  have ll1 : l1.length = d1.length := p1.P.length_eq
  have Q2 : QAt (H3.set 8 (.lst ((up e l2.length (l2 ++ [e])).map En.w))) 7 8 (up e l2.length (l2 ++ [e])) := p2.Q.wr
  have D4 : (H3.set 8 (.lst ((up e l2.length (l2 ++ [e])).map En.w)))[4]? = some (.lst (d2.map En.w)) := by rw [h_set, if_neg (by decide)]; exact p2.D
  have Q1 : QAt (H3.set 8 (.lst ((up e l2.length (l2 ++ [e])).map En.w))) 5 6 l1 := ⟨by rw [h_set, if_neg (by decide)]; exact p1.Q.q, by rw [h_set, if_neg (by decide)]; exact p1.Q.r⟩
  have D3 : (H3.set 8 (.lst ((up e l2.length (l2 ++ [e])).map En.w)))[3]? = some (.lst (d1.map En.w)) := by rw [h_set, if_neg (by decide)]; exact p1.D
  have ul : (up e l2.length (l2 ++ [e])).length = d2.length + 1 := by rw [Pp.length_eq, List.length_append, ll2]; rfl
  have q10 : (dIfS (dOr (dOp (isF true) (dMeth f_Queue_put [2] 6 0 1 [0, 1] [] (dVar 10) dNil (dCons (dVar 4) dNil)) (dCst .non)) (dOp (eqF true) (dMeth f_Queue_how_many [2] 8 0 0 [0] [] (dVar 10) dNil dNil) (dOp (addF false) (dCl lenF (dCons (dVar 8) dNil)) (dCst (.int 1))))) (dRet (dCst (.bl false))) dNext)
      (S12 (some (.lst (ns.map W.int))) (some (.lst (es.map En.w))) x3 (some e.w) none none (.loc 2) (.loc 3) (.loc 4) (.loc 5) (.loc 7)) H3 = .nx (S12 (some (.lst (ns.map W.int))) (some (.lst (es.map En.w))) x3 (some e.w) none none (.loc 2) (.loc 3) (.loc 4) (.loc 5) (.loc 7)) (H3.set 8 (.lst ((up e l2.length (l2 ++ [e])).map En.w))) := by
    have g1 : dOp (isF true) (dMeth f_Queue_put [2] 6 0 1 [0, 1] [] (dVar 10) dNil (dCons (dVar 4) dNil)) (dCst .non) (S12 (some (.lst (ns.map W.int))) (some (.lst (es.map En.w))) x3 (some e.w) none none (.loc 2) (.loc 3) (.loc 4) (.loc 5) (.loc 7)) H3 = .ok (.bl false) (H3.set 8 (.lst ((up e l2.length (l2 ++ [e])).map En.w))) :=
      ev_op ((ev_meth (xs := []) (ys := [e.w]) (ev_var rfl) p2.Q.q ⟨rfl, rfl⟩ ev_nil (ev_cons (ev_var rfl) ev_nil) ⟨rfl, rfl⟩).trans (put_ok p2.Q (by omega))) ev_cst rfl
    have g2 := ne_false (hm_ok (σ := S12 (some (.lst (ns.map W.int))) (some (.lst (es.map En.w))) x3 (some e.w) none none (.loc 2) (.loc 3) (.loc 4) (.loc 5) (.loc 7)) (i := 10) Q2 rfl) (db := dOp (addF false) (dCl lenF (dCons (dVar 8) dNil)) (dCst (.int 1))) (h2 := H3.set 8 (.lst ((up e l2.length (l2 ++ [e])).map En.w))) (by
      rw [ul]
      exact ev_op0 (len_ok (j := 8) D4 rfl) ev_cst rfl) rfl rfl
    refine (sv_if (ev_dT ((ev_or_f g1 rfl).trans g2) (k := false) rfl)).trans ?_
    rw [if_neg (by decide)]; rfl
  refine (fun ⟨h', z⟩ => ⟨h', (sv_seq q10).trans z⟩ : (∃ h', _ = S.rt (.bl true) h') → _) ?_
  generalize hH4 : H3.set 8 (.lst ((up e l2.length (l2 ++ [e])).map En.w)) = H4 at Q1 Q2 D3 D4 ⊢
  -- both emptied
  have src : dSq (dLst false (dCons (dLst false (dCons (dVar 9) (dCons (dVar 7) dNil))) (dCons (dLst false (dCons (dVar 10) (dCons (dOp (addF false) (dVar 8) (dLst false (dCons (dVar 4) dNil))) dNil))) dNil))) (S12 (some (.lst (ns.map W.int))) (some (.lst (es.map En.w))) x3 (some e.w) none none (.loc 2) (.loc 3) (.loc 4) (.loc 5) (.loc 7)) H4 =
      .ok (fun _ => some [.lst [.loc 5, .loc 3], .lst [.loc 7, .lst ((d2 ++ [e]).map En.w)]]) H4 := by
    have cat : dOp (addF false) (dVar 8) (dLst false (dCons (dVar 4) dNil)) (S12 (some (.lst (ns.map W.int))) (some (.lst (es.map En.w))) x3 (some e.w) none none (.loc 2) (.loc 3) (.loc 4) (.loc 5) (.loc 7)) H4 = .ok (.lst ((d2 ++ [e]).map En.w)) H4 := by
      refine ev_op0 (x := .loc 4) (y := .lst [e.w]) (ev_var rfl) (ev_lstF (ev_cons (ev_var rfl) ev_nil) (by show 1 ≤ 1000; decide)) ?_
      have l4 : lstOf H4 (.loc 4) = some (d2.map En.w) := by simp only [lstOf, D4]
      show catL false (.loc 4) (.lst [e.w]) H4 = _
      unfold catL
      rw [l4, show lstOf H4 (.lst [e.w]) = some [e.w] from rfl]
      simp only []
      rw [if_pos (by rw [List.length_map]; exact Nat.le_of_lt (mil (by simp; omega))), List.map_append]; rfl
    exact sq_lst (ev_lstF (ev_cons (ev_lstF (ev_cons (ev_var rfl) (ev_cons (ev_var rfl) ev_nil)) (by show 2 ≤ 1000; decide)) (ev_cons (ev_lstF (ev_cons (ev_var rfl) (ev_cons cat ev_nil)) (by show 2 ≤ 1000; decide)) ev_nil)) (by show 2 ≤ 1000; decide))
  obtain ⟨σ11, H5, e11, x5, x11, hσ11, la, lb, Qa, Qb, _, _, _, hla⟩ := for_ok (g := gN 5) (b := endC)
    (fun i σ h => ∃ x5 x11, σ = (S12 (some (.lst (ns.map W.int))) (some (.lst (es.map En.w))) x3 (some e.w) x5 x11 (.loc 2) (.loc 3) (.loc 4) (.loc 5) (.loc 7)) ∧ ∃ la lb, QAt h 5 6 la ∧ QAt h 7 8 lb ∧ h[3]? = some (.lst (d1.map En.w)) ∧ (i = 0 → la = l1) ∧ (i ≤ 1 → lb = up e l2.length (l2 ++ [e])) ∧ (1 ≤ i → la = []))
    src ⟨none, none, rfl, l1, _, Q1, Q2, D3, fun _ => rfl, fun _ => rfl, fun z => absurd z (by decide)⟩ (fun i x σ h hx ⟨x5, x11, hσ, la, lb, Qa, Qb, h3, a0, b1, a1⟩ => by
      subst hσ
      match i, hx, a0, b1, a1 with
      | 0, hx, a0, b1, a1 =>
        obtain rfl : W.lst [.loc 5, .loc 3] = x := Option.some.inj hx
        obtain rfl := a0 rfl
        obtain ⟨σ', h', e1, q1, q2, q3, y, q4⟩ := end_ok (σ := (S12 (some (.lst (ns.map W.int))) (some (.lst (es.map En.w))) x3 (some e.w) (some (.lst [.loc 5, .loc 3])) x11 (.loc 2) (.loc 3) (.loc 4) (.loc 5) (.loc 7))) (by show 11 < 12; decide) rfl Qa p1.H p1.P (by omega) (by simp only [seqOf, lstOf, h3])
        exact ⟨_, _, _, _, rfl, e1, some (.lst [.loc 5, .loc 3]), y, q4, [], lb, q1, ⟨by rw [q3 7 (by decide)]; exact Qb.q, by rw [q3 8 (by decide)]; exact Qb.r⟩, by rw [q3 3 (by decide)]; exact h3, fun z => absurd z (by decide), fun _ => b1 (by decide), fun _ => rfl⟩
      | 1, hx, a0, b1, a1 =>
        obtain rfl : W.lst [.loc 7, .lst ((d2 ++ [e]).map En.w)] = x := Option.some.inj hx
        obtain rfl := b1 (by decide)
        obtain rfl := a1 (by decide)
        obtain ⟨σ', h', e1, q1, q2, q3, y, q4⟩ := end_ok (σ := (S12 (some (.lst (ns.map W.int))) (some (.lst (es.map En.w))) x3 (some e.w) (some (.lst [.loc 7, .lst ((d2 ++ [e]).map En.w)])) x11 (.loc 2) (.loc 3) (.loc 4) (.loc 5) (.loc 7))) (due := d2 ++ [e]) (by show 11 < 12; decide) rfl Qb Hp (Pp.trans (p2.P.append_right _)) (by omega) rfl
        exact ⟨_, _, _, _, rfl, e1, some (.lst [.loc 7, .lst ((d2 ++ [e]).map En.w)]), y, q4, [], [], ⟨by rw [q3 5 (by decide)]; exact Qa.q, by rw [q3 6 (by decide)]; exact Qa.r⟩, q1, by rw [q3 3 (by decide)]; exact h3, fun z => absurd z (by decide), fun z => absurd z (by decide), fun _ => rfl⟩
      | i + 2, hx, _, _, _ => cases hx)
  obtain rfl := hla (by show 1 ≤ 2; decide)
  subst hσ11
  refine (fun ⟨h', z⟩ => ⟨h', (sv_seq e11).trans z⟩ : (∃ h', _ = S.rt (.bl true) h') → _) ?_
  obtain ⟨H6, e12, Q6, _, _⟩ := all_ok Qa (fun i i0 il => by simp at il) (by decide)
  rw [srt_nil] at e12
  have g1 := eq_true (da := dMeth f_Queue_take_all [2] 9 0 0 [0] [] (dVar 9) dNil dNil) (db := dTup dNil) (σ := (S12 (some (.lst (ns.map W.int))) (some (.lst (es.map En.w))) x3 (some e.w) x5 x11 (.loc 2) (.loc 3) (.loc 4) (.loc 5) (.loc 7)))
    ((ev_meth (xs := []) (ys := []) (ev_var rfl) Qa.q ⟨rfl, rfl⟩ ev_nil ev_nil ⟨rfl, rfl⟩).trans e12) (ev_tup ev_nil (by decide)) rfl rfl
  have ld := ld_ok (σ := (S12 (some (.lst (ns.map W.int))) (some (.lst (es.map En.w))) x3 (some e.w) x5 x11 (.loc 2) (.loc 3) (.loc 4) (.loc 5) (.loc 7))) (i := 9) Q6 rfl
  rw [srt_nil] at ld
  have g2 := eq_true ld (db := dTup dNil) (ev_tup ev_nil (by decide)) rfl rfl
  have g3 := eq_true (hm_ok (σ := (S12 (some (.lst (ns.map W.int))) (some (.lst (es.map En.w))) x3 (some e.w) x5 x11 (.loc 2) (.loc 3) (.loc 4) (.loc 5) (.loc 7))) (i := 9) Q6 rfl) (db := dCst (.int 0)) ev_cst rfl rfl
  exact ⟨H6, sv_ret ((ev_and_t g1 rfl).trans ((ev_and_t g2 rfl).trans g3))⟩
end K31
set_option Elab.async false
set_option linter.all false
set_option maxRecDepth 100000
set_option maxHeartbeats 1000000

/-! printed: the head -/
namespace K31
open PySem L2 Evl Dn
theorem nm_nd : nmL.Nodup := by decide +kernel
theorem all_mk {w : World} {K : PySem.W.Frag} {h : Heap} {mg : Str → Option Value} {fa : Addr} (X : K.In h) (G : h.Ns mainGlobals mg) (hfa : mg "law" = some (.ref fa))
    {f0 f1 f2 f3 f4 f5 f6 f7 f8 f9 f10 f11 f12 f13 f14 f15 f16 C1 C2 : Addr} {od0 an0 : Option Addr} {sl0 : Array (Option Value)} {oc0 kV0 dc0 pm0 cd0 ct0 : Value} {od1 an1 : Option Addr} {sl1 : Array (Option Value)} {oc1 kV1 dc1 pm1 cd1 ct1 : Value} {od2 an2 : Option Addr} {sl2 : Array (Option Value)} {oc2 kV2 dc2 pm2 cd2 ct2 : Value} {od3 an3 : Option Addr} {sl3 : Array (Option Value)} {oc3 kV3 dc3 pm3 cd3 ct3 : Value} {od4 an4 : Option Addr} {sl4 : Array (Option Value)} {oc4 kV4 dc4 pm4 cd4 ct4 : Value} {od5 an5 : Option Addr} {sl5 : Array (Option Value)} {oc5 kV5 dc5 pm5 cd5 ct5 : Value} {od6 an6 : Option Addr} {sl6 : Array (Option Value)} {oc6 kV6 dc6 pm6 cd6 ct6 : Value} {od7 an7 : Option Addr} {sl7 : Array (Option Value)} {oc7 kV7 dc7 pm7 cd7 ct7 : Value} {od8 an8 : Option Addr} {sl8 : Array (Option Value)} {oc8 kV8 dc8 pm8 cd8 ct8 : Value} {od9 an9 : Option Addr} {sl9 : Array (Option Value)} {oc9 kV9 dc9 pm9 cd9 ct9 : Value} {od10 an10 : Option Addr} {sl10 : Array (Option Value)} {oc10 kV10 dc10 pm10 cd10 ct10 : Value} {od11 an11 : Option Addr} {sl11 : Array (Option Value)} {oc11 kV11 dc11 pm11 cd11 ct11 : Value} {od12 an12 : Option Addr} {sl12 : Array (Option Value)} {oc12 kV12 dc12 pm12 cd12 ct12 : Value} {od13 an13 : Option Addr} {sl13 : Array (Option Value)} {oc13 kV13 dc13 pm13 cd13 ct13 : Value} {od14 an14 : Option Addr} {sl14 : Array (Option Value)} {oc14 kV14 dc14 pm14 cd14 ct14 : Value} {od15 an15 : Option Addr} {sl15 : Array (Option Value)} {oc15 kV15 dc15 pm15 cd15 ct15 : Value} {N1 cc1 cda1 : Addr} {nm1 q1 : Str} {bs1 bm1 sub1 : List Value} {sn1 : List Str} {ab1 : Bool} {col1 : Option Bool} {dd1 : Option Addr} {w01 w11 w21 w31 w51 : Option Value} {od16 an16 : Option Addr} {sl16 : Array (Option Value)} {oc16 kV16 dc16 pm16 ct16 : Value} {ccl1 cl1 : Value} {cdd1 cld1 : Option Addr} {vs1 : Array Value} {ccs1 csl1 : Array (Option Value)} {file1 : Str} {tf1 : Tok} {dat1 : ClassData}
    (aC1 : PySem.W.nsIn K mainGlobals "Refused" = some (some (.ref C1)))
    (aC2 : PySem.W.nsIn K mainGlobals "Queue" = some (some (.ref C2)))
    (a0 : PySem.W.findIn K (.ref C2) "__init__" = some (some (.ref f0)))
    (i0 : PySem.W.isFn K (.ref f0) = true)
    (l0 : K.lookup f0 = some ⟨oc0, od0, .func (PySem.W.fnOf "__init__" "Queue.__init__" (defArgs (inClass (top 4) 0)) (defBody (inClass (top 4) 0)) (defScope (inClass (top 4) 0)) .none kV0 dc0 pm0 an0 cd0 ct0), sl0⟩)
    (c0 : PySem.W.codeIn K cd0 "Queue.__init__" = true)
    (k0 : PySem.W.keepIn K (.ref f0) = true)
    (a1 : PySem.W.findIn K (.ref C2) "how_many" = some (some (.ref f1)))
    (i1 : PySem.W.isFn K (.ref f1) = true)
    (l1 : K.lookup f1 = some ⟨oc1, od1, .func (PySem.W.fnOf "how_many" "Queue.how_many" (defArgs (inClass (top 4) 1)) (defBody (inClass (top 4) 1)) (defScope (inClass (top 4) 1)) .none kV1 dc1 pm1 an1 cd1 ct1), sl1⟩)
    (c1 : PySem.W.codeIn K cd1 "Queue.how_many" = true)
    (k1 : PySem.W.keepIn K (.ref f1) = true)
    (a2 : PySem.W.findIn K (.ref C2) "first" = some (some (.ref f2)))
    (i2 : PySem.W.isFn K (.ref f2) = true)
    (l2 : K.lookup f2 = some ⟨oc2, od2, .func (PySem.W.fnOf "first" "Queue.first" (defArgs (inClass (top 4) 2)) (defBody (inClass (top 4) 2)) (defScope (inClass (top 4) 2)) .none kV2 dc2 pm2 an2 cd2 ct2), sl2⟩)
    (c2 : PySem.W.codeIn K cd2 "Queue.first" = true)
    (k2 : PySem.W.keepIn K (.ref f2) = true)
    (a3 : PySem.W.findIn K (.ref C2) "put" = some (some (.ref f3)))
    (i3 : PySem.W.isFn K (.ref f3) = true)
    (l3 : K.lookup f3 = some ⟨oc3, od3, .func (PySem.W.fnOf "put" "Queue.put" (defArgs (inClass (top 4) 3)) (defBody (inClass (top 4) 3)) (defScope (inClass (top 4) 3)) .none kV3 dc3 pm3 an3 cd3 ct3), sl3⟩)
    (c3 : PySem.W.codeIn K cd3 "Queue.put" = true)
    (k3 : PySem.W.keepIn K (.ref f3) = true)
    (a4 : PySem.W.findIn K (.ref C2) "take" = some (some (.ref f4)))
    (i4 : PySem.W.isFn K (.ref f4) = true)
    (l4 : K.lookup f4 = some ⟨oc4, od4, .func (PySem.W.fnOf "take" "Queue.take" (defArgs (inClass (top 4) 4)) (defBody (inClass (top 4) 4)) (defScope (inClass (top 4) 4)) .none kV4 dc4 pm4 an4 cd4 ct4), sl4⟩)
    (c4 : PySem.W.codeIn K cd4 "Queue.take" = true)
    (k4 : PySem.W.keepIn K (.ref f4) = true)
    (a5 : PySem.W.findIn K (.ref C2) "lesser_behind" = some (some (.ref f5)))
    (i5 : PySem.W.isFn K (.ref f5) = true)
    (l5 : K.lookup f5 = some ⟨oc5, od5, .func (PySem.W.fnOf "lesser_behind" "Queue.lesser_behind" (defArgs (inClass (top 4) 5)) (defBody (inClass (top 4) 5)) (defScope (inClass (top 4) 5)) .none kV5 dc5 pm5 an5 cd5 ct5), sl5⟩)
    (c5 : PySem.W.codeIn K cd5 "Queue.lesser_behind" = true)
    (k5 : PySem.W.keepIn K (.ref f5) = true)
    (a6 : PySem.W.findIn K (.ref C2) "sink" = some (some (.ref f6)))
    (i6 : PySem.W.isFn K (.ref f6) = true)
    (l6 : K.lookup f6 = some ⟨oc6, od6, .func (PySem.W.fnOf "sink" "Queue.sink" (defArgs (inClass (top 4) 6)) (defBody (inClass (top 4) 6)) (defScope (inClass (top 4) 6)) .none kV6 dc6 pm6 an6 cd6 ct6), sl6⟩)
    (c6 : PySem.W.codeIn K cd6 "Queue.sink" = true)
    (k6 : PySem.W.keepIn K (.ref f6) = true)
    (a7 : PySem.W.findIn K (.ref C2) "take_all" = some (some (.ref f7)))
    (i7 : PySem.W.isFn K (.ref f7) = true)
    (l7 : K.lookup f7 = some ⟨oc7, od7, .func (PySem.W.fnOf "take_all" "Queue.take_all" (defArgs (inClass (top 4) 7)) (defBody (inClass (top 4) 7)) (defScope (inClass (top 4) 7)) .none kV7 dc7 pm7 an7 cd7 ct7), sl7⟩)
    (c7 : PySem.W.codeIn K cd7 "Queue.take_all" = true)
    (k7 : PySem.W.keepIn K (.ref f7) = true)
    (a8 : PySem.W.findIn K (.ref C2) "listed" = some (some (.ref f8)))
    (i8 : PySem.W.isFn K (.ref f8) = true)
    (l8 : K.lookup f8 = some ⟨oc8, od8, .func (PySem.W.fnOf "listed" "Queue.listed" (defArgs (inClass (top 4) 8)) (defBody (inClass (top 4) 8)) (defScope (inClass (top 4) 8)) .none kV8 dc8 pm8 an8 cd8 ct8), sl8⟩)
    (c8 : PySem.W.codeIn K cd8 "Queue.listed" = true)
    (k8 : PySem.W.keepIn K (.ref f8) = true)
    (a9 : PySem.W.nsIn K mainGlobals "_law_heap" = some (some (.ref f9)))
    (l9 : K.lookup f9 = some ⟨oc9, od9, .func (PySem.W.fnOf "_law_heap" "_law_heap" (defArgs (top 6)) (defBody (top 6)) (defScope (top 6)) .none kV9 dc9 pm9 an9 cd9 ct9), sl9⟩)
    (c9 : PySem.W.codeIn K cd9 "_law_heap" = true)
    (k9 : PySem.W.keepIn K (.ref f9) = true)
    (a10 : PySem.W.nsIn K mainGlobals "_law_draw" = some (some (.ref f10)))
    (l10 : K.lookup f10 = some ⟨oc10, od10, .func (PySem.W.fnOf "_law_draw" "_law_draw" (defArgs (top 7)) (defBody (top 7)) (defScope (top 7)) .none kV10 dc10 pm10 an10 cd10 ct10), sl10⟩)
    (c10 : PySem.W.codeIn K cd10 "_law_draw" = true)
    (k10 : PySem.W.keepIn K (.ref f10) = true)
    (a11 : PySem.W.nsIn K mainGlobals "_law_pick" = some (some (.ref f11)))
    (l11 : K.lookup f11 = some ⟨oc11, od11, .func (PySem.W.fnOf "_law_pick" "_law_pick" (defArgs (top 8)) (defBody (top 8)) (defScope (top 8)) .none kV11 dc11 pm11 an11 cd11 ct11), sl11⟩)
    (c11 : PySem.W.codeIn K cd11 "_law_pick" = true)
    (k11 : PySem.W.keepIn K (.ref f11) = true)
    (a12 : PySem.W.nsIn K mainGlobals "_law_entry" = some (some (.ref f12)))
    (l12 : K.lookup f12 = some ⟨oc12, od12, .func (PySem.W.fnOf "_law_entry" "_law_entry" (defArgs (top 9)) (defBody (top 9)) (defScope (top 9)) .none kV12 dc12 pm12 an12 cd12 ct12), sl12⟩)
    (c12 : PySem.W.codeIn K cd12 "_law_entry" = true)
    (k12 : PySem.W.keepIn K (.ref f12) = true)
    (a13 : PySem.W.nsIn K mainGlobals "_law_least" = some (some (.ref f13)))
    (l13 : K.lookup f13 = some ⟨oc13, od13, .func (PySem.W.fnOf "_law_least" "_law_least" (defArgs (top 10)) (defBody (top 10)) (defScope (top 10)) .none kV13 dc13 pm13 an13 cd13 ct13), sl13⟩)
    (c13 : PySem.W.codeIn K cd13 "_law_least" = true)
    (k13 : PySem.W.keepIn K (.ref f13) = true)
    (a14 : PySem.W.nsIn K mainGlobals "_law_deed" = some (some (.ref f14)))
    (l14 : K.lookup f14 = some ⟨oc14, od14, .func (PySem.W.fnOf "_law_deed" "_law_deed" (defArgs (top 11)) (defBody (top 11)) (defScope (top 11)) .none kV14 dc14 pm14 an14 cd14 ct14), sl14⟩)
    (c14 : PySem.W.codeIn K cd14 "_law_deed" = true)
    (k14 : PySem.W.keepIn K (.ref f14) = true)
    (a15 : PySem.W.nsIn K mainGlobals "law" = some (some (.ref f15)))
    (l15 : K.lookup f15 = some ⟨oc15, od15, .func (PySem.W.fnOf "law" "law" (defArgs (top 12)) (defBody (top 12)) (defScope (top 12)) .none kV15 dc15 pm15 an15 cd15 ct15), sl15⟩)
    (c15 : PySem.W.codeIn K cd15 "law" = true)
    (k15 : PySem.W.keepIn K (.ref f15) = true)
    (pg2 : PySem.W.plainGet K C2 Str.empty = true)
    (hd2 : PySem.W.hasDictIn K C2 = true)
    (po2 : PySem.W.plainOver K C2 = true)
    (sa2 : PySem.W.findIn K (.ref C2) "__setattr__" = some (some (.builtin "object.__setattr__")))
    (mk2 : PySem.W.makesIn K C2 = true)
    (kc2 : PySem.W.keepIn K (.ref C2) = true)
    (na_row : PySem.W.findIn K (.ref C2) "row" = some none)
    (z_abs : PySem.W.nsIn K mainGlobals "abs" = some none)
    (z_bool : PySem.W.nsIn K mainGlobals "bool" = some none)
    (z_int : PySem.W.nsIn K mainGlobals "int" = some none)
    (z_isinstance : PySem.W.nsIn K mainGlobals "isinstance" = some none)
    (z_len : PySem.W.nsIn K mainGlobals "len" = some none)
    (z_range : PySem.W.nsIn K mainGlobals "range" = some none)
    (z_sorted : PySem.W.nsIn K mainGlobals "sorted" = some none)
    (z_super : PySem.W.nsIn K mainGlobals "super" = some none)
    (z_tuple : PySem.W.nsIn K mainGlobals "tuple" = some none)
    (xl1 : K.lookup C1 = some (excClassObj nm1 q1 C1 N1 bs1 bm1 true sn1 sub1 ab1 col1 dd1 w01 w11 w21 w31 w51 "ValueError.__new__"))
    (xr1 : PySem.HandSPX.refsVE bm1 = true)
    (xs1 : PySem.W.findIn K (.ref C1) "__setattr__" = some (some (.builtin "object.__setattr__")))
    (xe1 : PySem.W.subIn K (.ref C1) (.type "BaseException") = some true)
    (xt1 : PySem.W.typeIn K (.ref C1) = some (.type "type"))
    (xk1 : PySem.W.keepIn K (.ref C1) = true)
    (yi1 : PySem.W.findIn K (.ref C1) "__init__" = some (some (.ref f16)))
    (yt1 : PySem.W.typeIn K (.ref f16) = some (.type "function"))
    (yn1 : PySem.W.findIn K (.ref C1) "word" = some none)
    (yl1 : K.lookup f16 = some ⟨oc16, od16, .func (PySem.W.fnX "__init__" "Refused.__init__" (defArgs (inClass (top 2) 0)) (defBody (inClass (top 2) 0)) (defScope (inClass (top 2) 0)) [("__class__", cc1)] .none kV16 dc16 pm16 an16 (.ref cda1) ct16), sl16⟩)
    (yc1 : PySem.W.codeIn K (.ref cda1) "Refused.__init__" = true)
    (yo1 : K.lookup cda1 = some ⟨ccl1, cdd1, .fields vs1, ccs1⟩)
    (yv1 : vs1[2]? = some (.str file1 tf1))
    (yf1 : (PySem.Challenge.pw_nonearer_k31_whole_queues.main.file == file1) = true)
    (ye1 : K.lookup cc1 = some ⟨cl1, cld1, .cell (some (.ref C1)), csl1⟩)
    (yd1 : PySem.W.clsIn K C1 = some dat1)
    (ys1 : PySem.W.ks_superIn K C1 C1 "__init__" = some (some (.builtin "ValueError.__init__")))
    (yw1 : PySem.W.mroIn K C1 (.ref C1) = some true)
    (yb1 : PySem.W.subIn K (.ref C1) (.type "ValueError") = some true)
    (yp1 : PySem.W.nsIn K cStatics "thirdparty.any" = some none)
    (yx1 : PySem.W.exmOne K (.ref C1) (.ref C1) = some true)
    (yg1 : PySem.W.findIn K (.ref C1) "__getattribute__" = some (some (.builtin "BaseException.__getattribute__")))
    (yh1 : PySem.W.findIn K (.ref C1) "__getattr__" = some none)
    (yj1 : PySem.W.hasDictIn K C1 = true) :
    ∃ (fd : FuncData) (T : Tb), (∀ (s : Shared) (v : Value), BindsTo s fd ⟨[v], []⟩ [("_law_script", v)]) ∧ ∀ base : Heap, K.In base → base.Ns mainGlobals mg → FnOk PySem.Challenge.pw_nonearer_k31_whole_queues w K mg base (L2.CX PySem.Challenge.pw_nonearer_k31_whole_queues w) 7 fa fd ["_law_script"] (spD K T 1 f_law) := by
  have e : f15 = fa := Value.ref.inj (Option.some.inj ((PySem.W.mg_of X G a15).symm.trans hfa))
  subst e
  have B : Facts PySem.Challenge.pw_nonearer_k31_whole_queues K mg (⟨fun k => ([f0, f1, f2, f3, f4, f5, f6, f7, f8, f9, f10, f11, f12, f13, f14, f15, f16] : List Addr).getD k 0, fun k => ([0, C1, C2] : List Addr).getD k 0, nmL, nm_nd⟩ : Tb) (fun k => ([PySem.W.fnOf "__init__" "Queue.__init__" (defArgs (inClass (top 4) 0)) (defBody (inClass (top 4) 0)) (defScope (inClass (top 4) 0)) .none kV0 dc0 pm0 an0 cd0 ct0, PySem.W.fnOf "how_many" "Queue.how_many" (defArgs (inClass (top 4) 1)) (defBody (inClass (top 4) 1)) (defScope (inClass (top 4) 1)) .none kV1 dc1 pm1 an1 cd1 ct1, PySem.W.fnOf "first" "Queue.first" (defArgs (inClass (top 4) 2)) (defBody (inClass (top 4) 2)) (defScope (inClass (top 4) 2)) .none kV2 dc2 pm2 an2 cd2 ct2, PySem.W.fnOf "put" "Queue.put" (defArgs (inClass (top 4) 3)) (defBody (inClass (top 4) 3)) (defScope (inClass (top 4) 3)) .none kV3 dc3 pm3 an3 cd3 ct3, PySem.W.fnOf "take" "Queue.take" (defArgs (inClass (top 4) 4)) (defBody (inClass (top 4) 4)) (defScope (inClass (top 4) 4)) .none kV4 dc4 pm4 an4 cd4 ct4, PySem.W.fnOf "lesser_behind" "Queue.lesser_behind" (defArgs (inClass (top 4) 5)) (defBody (inClass (top 4) 5)) (defScope (inClass (top 4) 5)) .none kV5 dc5 pm5 an5 cd5 ct5, PySem.W.fnOf "sink" "Queue.sink" (defArgs (inClass (top 4) 6)) (defBody (inClass (top 4) 6)) (defScope (inClass (top 4) 6)) .none kV6 dc6 pm6 an6 cd6 ct6, PySem.W.fnOf "take_all" "Queue.take_all" (defArgs (inClass (top 4) 7)) (defBody (inClass (top 4) 7)) (defScope (inClass (top 4) 7)) .none kV7 dc7 pm7 an7 cd7 ct7, PySem.W.fnOf "listed" "Queue.listed" (defArgs (inClass (top 4) 8)) (defBody (inClass (top 4) 8)) (defScope (inClass (top 4) 8)) .none kV8 dc8 pm8 an8 cd8 ct8, PySem.W.fnOf "_law_heap" "_law_heap" (defArgs (top 6)) (defBody (top 6)) (defScope (top 6)) .none kV9 dc9 pm9 an9 cd9 ct9, PySem.W.fnOf "_law_draw" "_law_draw" (defArgs (top 7)) (defBody (top 7)) (defScope (top 7)) .none kV10 dc10 pm10 an10 cd10 ct10, PySem.W.fnOf "_law_pick" "_law_pick" (defArgs (top 8)) (defBody (top 8)) (defScope (top 8)) .none kV11 dc11 pm11 an11 cd11 ct11, PySem.W.fnOf "_law_entry" "_law_entry" (defArgs (top 9)) (defBody (top 9)) (defScope (top 9)) .none kV12 dc12 pm12 an12 cd12 ct12, PySem.W.fnOf "_law_least" "_law_least" (defArgs (top 10)) (defBody (top 10)) (defScope (top 10)) .none kV13 dc13 pm13 an13 cd13 ct13, PySem.W.fnOf "_law_deed" "_law_deed" (defArgs (top 11)) (defBody (top 11)) (defScope (top 11)) .none kV14 dc14 pm14 an14 cd14 ct14, PySem.W.fnOf "law" "law" (defArgs (top 12)) (defBody (top 12)) (defScope (top 12)) .none kV15 dc15 pm15 an15 cd15 ct15, PySem.W.fnX "__init__" "Refused.__init__" (defArgs (inClass (top 2) 0)) (defBody (inClass (top 2) 0)) (defScope (inClass (top 2) 0)) [("__class__", cc1)] .none kV16 dc16 pm16 an16 (.ref cda1) ct16] : List FuncData).getD k (PySem.W.fnOf "__init__" "Queue.__init__" (defArgs (inClass (top 4) 0)) (defBody (inClass (top 4) 0)) (defScope (inClass (top 4) 0)) .none kV0 dc0 pm0 an0 cd0 ct0)) := {
    F_Queue___init__ := fun_mk (st := (inClass (top 4) 0)) l0 c0 k0
    F_Queue_how_many := fun_mk (st := (inClass (top 4) 1)) l1 c1 k1
    Me_Queue_how_many := ⟨a1, i1, k1⟩
    F_Queue_first := fun_mk (st := (inClass (top 4) 2)) l2 c2 k2
    Me_Queue_first := ⟨a2, i2, k2⟩
    F_Queue_put := fun_mk (st := (inClass (top 4) 3)) l3 c3 k3
    Me_Queue_put := ⟨a3, i3, k3⟩
    F_Queue_lesser_behind := fun_mk (st := (inClass (top 4) 5)) l5 c5 k5
    Me_Queue_lesser_behind := ⟨a5, i5, k5⟩
    F_Queue_sink := fun_mk (st := (inClass (top 4) 6)) l6 c6 k6
    Me_Queue_sink := ⟨a6, i6, k6⟩
    F_Queue_take := fun_mk (st := (inClass (top 4) 4)) l4 c4 k4
    Me_Queue_take := ⟨a4, i4, k4⟩
    F_Queue_take_all := fun_mk (st := (inClass (top 4) 7)) l7 c7 k7
    Me_Queue_take_all := ⟨a7, i7, k7⟩
    F_Queue_listed := fun_mk (st := (inClass (top 4) 8)) l8 c8 k8
    Me_Queue_listed := ⟨a8, i8, k8⟩
    F__law_heap := fun_mk (st := (top 6)) l9 c9 k9
    m__law_heap := PySem.W.mg_of X G a9
    F__law_draw := fun_mk (st := (top 7)) l10 c10 k10
    m__law_draw := PySem.W.mg_of X G a10
    F__law_pick := fun_mk (st := (top 8)) l11 c11 k11
    m__law_pick := PySem.W.mg_of X G a11
    F__law_entry := fun_mk (st := (top 9)) l12 c12 k12
    m__law_entry := PySem.W.mg_of X G a12
    F__law_least := fun_mk (st := (top 10)) l13 c13 k13
    m__law_least := PySem.W.mg_of X G a13
    F__law_deed := fun_mk (st := (top 11)) l14 c14 k14
    m__law_deed := PySem.W.mg_of X G a14
    F_law := fun_mk (st := (top 12)) l15 c15 k15
    m_law := PySem.W.mg_of X G a15
    mgC_Refused := PySem.W.mg_of X G aC1
    sup_Refused := { ox := oex_mk xl1 xr1 xs1 xe1 xt1 xk1, iC := yi1, tI := yt1, no := yn1, top := (by decide +kernel), sup := PySem.W.mg_none_of X G z_super, cd := ⟨_, yd1⟩, si := ys1, own := yw1, vB := yb1, tp := yp1, ne := (by decide), db := (by decide), fx := ⟨_, _, _, defArgs (inClass (top 2) 0), defScope (inClass (top 2) 0), _, _, _, _, _, _, _, _, _, _, _, _, _, _, _, _, _, _, _, _, _, _, _, _, _, _, _, _, _, rfl, yl1, yc1, rfl, rfl, yo1, yv1, yf1, ye1, rfl, rfl, rfl, rfl, rfl, rfl, rfl, (by decide +kernel), fun _ => rfl⟩ }
    supB_Refused := .all fun us hl => match us, hl with | [_, _], _ => rfl
    ex_Refused := yx1
    xf_Refused := ⟨⟨yg1, yh1, xe1, yj1⟩, yn1⟩
    mgC_Queue := PySem.W.mg_of X G aC2
    C_Queue := ⟨pg2, hd2, po2, sa2⟩
    mk_Queue := ⟨mk2, a0, i0, kc2⟩
    at_row := at_mk ⟨pg2, hd2, po2, sa2⟩ na_row
    n_word := rfl
    n_row := rfl
    n_lesser_behind := rfl
    n_first := rfl
    n_sink := rfl
    n_take := rfl
    n_put := rfl
    n_listed := rfl
    n_how_many := rfl
    n_take_all := rfl
    z_abs := PySem.W.mg_none_of X G z_abs
    z_bool := PySem.W.mg_none_of X G z_bool
    z_int := PySem.W.mg_none_of X G z_int
    z_isinstance := PySem.W.mg_none_of X G z_isinstance
    z_len := PySem.W.mg_none_of X G z_len
    z_range := PySem.W.mg_none_of X G z_range
    z_sorted := PySem.W.mg_none_of X G z_sorted
    z_tuple := PySem.W.mg_none_of X G z_tuple
  }
  exact ⟨PySem.W.fnOf "law" "law" (defArgs (top 12)) (defBody (top 12)) (defScope (top 12)) .none kV15 dc15 pm15 an15 cd15 ct15, _, fun s v => .of_eq rfl, fun base _ _ => ok_law B⟩
end K31

open PySem PySem.W PyProof.Rows in
set_option maxRecDepth 100000 in
set_option maxHeartbeats 0 in
theorem PySem.Challenge.cw_nonearer_k31_whole_queues_holds : PySem.Challenge.rw_nonearer_k31_whole_queues.Holds := by
  w_on; o_law; k_head; (case hw => w_witness2)
  k_fill
  refine Dn.walkW (l := PySem.Challenge.rw_nonearer_k31_whole_queues) (n := 63) (k := 7) (x := "_law_script") (fn := K31.f_law) rfl (by decide) rfl ⟨rfl, by decide, by decide⟩ (fun w h Y => PySem.W.kIn_of Y) ?F K31.the_law
  case F =>
    intro w mg fa h KX G hmg
    refine' K31.all_mk KX G hmg ?aC1 ?aC2 ?a0 ?i0 ?l0 ?c0 ?k0 ?a1 ?i1 ?l1 ?c1 ?k1 ?a2 ?i2 ?l2 ?c2 ?k2 ?a3 ?i3 ?l3 ?c3 ?k3 ?a4 ?i4 ?l4 ?c4 ?k4 ?a5 ?i5 ?l5 ?c5 ?k5 ?a6 ?i6 ?l6 ?c6 ?k6 ?a7 ?i7 ?l7 ?c7 ?k7 ?a8 ?i8 ?l8 ?c8 ?k8 ?a9 ?l9 ?c9 ?k9 ?a10 ?l10 ?c10 ?k10 ?a11 ?l11 ?c11 ?k11 ?a12 ?l12 ?c12 ?k12 ?a13 ?l13 ?c13 ?k13 ?a14 ?l14 ?c14 ?k14 ?a15 ?l15 ?c15 ?k15 ?pg2 ?hd2 ?po2 ?sa2 ?mk2 ?kc2 ?na_row ?z_abs ?z_bool ?z_int ?z_isinstance ?z_len ?z_range ?z_sorted ?z_super ?z_tuple ?xl1 ?xr1 ?xs1 ?xe1 ?xt1 ?xk1 ?yi1 ?yt1 ?yn1 ?yl1 ?yc1 ?yo1 ?yv1 ?yf1 ?ye1 ?yd1 ?ys1 ?yw1 ?yb1 ?yp1 ?yx1 ?yg1 ?yh1 ?yj1
    (case aC1 => k_is)
    (case aC2 => k_is)
    (case a0 => k_is)
    (case i0 => k_is)
    (case l0 => k_is)
    (case c0 => k_is)
    (case k0 => k_is)
    (case a1 => k_is)
    (case i1 => k_is)
    (case l1 => k_is)
    (case c1 => k_is)
    (case k1 => k_is)
    (case a2 => k_is)
    (case i2 => k_is)
    (case l2 => k_is)
    (case c2 => k_is)
    (case k2 => k_is)
    (case a3 => k_is)
    (case i3 => k_is)
    (case l3 => k_is)
    (case c3 => k_is)
    (case k3 => k_is)
    (case a4 => k_is)
    (case i4 => k_is)
    (case l4 => k_is)
    (case c4 => k_is)
    (case k4 => k_is)
    (case a5 => k_is)
    (case i5 => k_is)
    (case l5 => k_is)
    (case c5 => k_is)
    (case k5 => k_is)
    (case a6 => k_is)
    (case i6 => k_is)
    (case l6 => k_is)
    (case c6 => k_is)
    (case k6 => k_is)
    (case a7 => k_is)
    (case i7 => k_is)
    (case l7 => k_is)
    (case c7 => k_is)
    (case k7 => k_is)
    (case a8 => k_is)
    (case i8 => k_is)
    (case l8 => k_is)
    (case c8 => k_is)
    (case k8 => k_is)
    (case a9 => k_is)
    (case l9 => k_is)
    (case c9 => k_is)
    (case k9 => k_is)
    (case a10 => k_is)
    (case l10 => k_is)
    (case c10 => k_is)
    (case k10 => k_is)
    (case a11 => k_is)
    (case l11 => k_is)
    (case c11 => k_is)
    (case k11 => k_is)
    (case a12 => k_is)
    (case l12 => k_is)
    (case c12 => k_is)
    (case k12 => k_is)
    (case a13 => k_is)
    (case l13 => k_is)
    (case c13 => k_is)
    (case k13 => k_is)
    (case a14 => k_is)
    (case l14 => k_is)
    (case c14 => k_is)
    (case k14 => k_is)
    (case a15 => k_is)
    (case l15 => k_is)
    (case c15 => k_is)
    (case k15 => k_is)
    (case pg2 => k_is)
    (case hd2 => k_is)
    (case po2 => k_is)
    (case sa2 => k_is)
    (case mk2 => k_is)
    (case kc2 => k_is)
    (case na_row => k_is)
    (case z_abs => k_is)
    (case z_bool => k_is)
    (case z_int => k_is)
    (case z_isinstance => k_is)
    (case z_len => k_is)
    (case z_range => k_is)
    (case z_sorted => k_is)
    (case z_super => k_is)
    (case z_tuple => k_is)
    (case xl1 => k_is)
    (case xr1 => rfl)
    (case xs1 => k_is)
    (case xe1 => k_is)
    (case xt1 => k_is)
    (case xk1 => k_is)
    (case yi1 => k_is)
    (case yt1 => k_is)
    (case yn1 => k_is)
    (case yl1 => k_is)
    (case yc1 => k_is)
    (case yo1 => k_is)
    (case yv1 => rfl)
    (case yf1 => decide +kernel)
    (case ye1 => k_is)
    (case yd1 => k_is)
    (case ys1 => ks_is)
    (case yw1 => k_is)
    (case yb1 => k_is)
    (case yp1 => k_is)
    (case yx1 => kts_exm)
    (case yg1 => k_is)
    (case yh1 => k_is)
    (case yj1 => k_is)
