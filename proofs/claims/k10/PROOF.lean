import PyProof.Rows.All
import Wide.All
import OpenK.AllK
import Wide.FinOn
import KE.DataEq
import HandS.ForMost
import HandS.ForExc
import HandS.Evl
import HandS.TupAny
import HandS.Wide
import HandS.Flow
import HandS.Style
import HandS.Codes
import HandS.IsInst
import HandS.Rev
import HandS.RevRange
import HandS.TryOnly
import HandS.ExcIs
import HandS.ExcValue
import HandS.Dict
import HandS.More
import HandS.Text
import HandS.SetFor
import HandS.SortInts
import HandS.Strs
import KE.OsSort
import HandS.Iter
import PySem.Challenge.RW_glyphyard_k10_whole_read
set_option Elab.async false
set_option linter.all false
set_option maxRecDepth 100000
set_option maxHeartbeats 2000000
namespace G
open PySem L2
open Evl (Ex ex_l ex_t ex_rd)

/-- plain data -/
inductive D where
  | non | bl (b : Bool) | int (i : Int) | str (x : Str) | lst (xs : List D) | tup (xs : List D) | scr (ns : List Int)
/-- what a slot holds: shared data; a caught exception; an object that stays; a list of one's own; a list of lists of one's own -/
inductive S where
  | d (d : D) | x (c : Str) (p : Option Int) | o (c : Str) (fs : List (Str × D)) | l (xs : List D) | ll (xss : List (List D)) | m (c : Str) (fs : List (Str × D))
inductive Out (α : Type) where
  | ok (a : α) | exc (c : Str) (p : Option Int) | stuck
def Out.bind {α β : Type} : Out α → (α → Out β) → Out β
  | .ok a, f => f a
  | .exc c p, _ => .exc c p
  | .stuck, _ => .stuck
abbrev Env := List (Option S)
inductive Res where
  | next (ρ : Env) | ret (s : S)

mutual
def Is (K : PySem.W.Frag) (H : Hp) : D → V → Prop
  | .non, v => v = .non
  | .bl b, v => v = .bl b
  | .int i, v => v = .int i
  | .str x, v => v = .str x
  | .lst ds, v => ∃ a xs, v = .ref a ∧ H a = some (.lst xs) ∧ IsAll K H ds xs
  | .scr ns, v => ∃ a, v = .ref a ∧ SqL K H a (ns.map V.int)
  | .tup ds, v => ∃ a xs, v = .ref a ∧ SqT K H a xs ∧ IsAll K H ds xs
def IsAll (K : PySem.W.Frag) (H : Hp) : List D → List V → Prop
  | [], vs => vs = []
  | d :: ds, vs => ∃ v r, vs = v :: r ∧ Is K H d v ∧ IsAll K H ds r
end

section
variable {K : PySem.W.Frag} {H H' : Hp}
mutual
theorem Is.mono (e : Ex H H') : ∀ (d : D) {v : V}, Is K H d v → Is K H' d v
  | .non, _, h => by simpa only [Is] using h
  | .bl _, _, h => by simpa only [Is] using h
  | .int _, _, h => by simpa only [Is] using h
  | .str _, _, h => by simpa only [Is] using h
  | .lst ds, _, h => by
    simp only [Is] at h ⊢
    obtain ⟨a, xs, e1, hs, ha⟩ := h
    exact ⟨a, xs, e1, e _ _ hs, IsAll.mono e ds ha⟩
  | .scr ns, _, h => by
    simp only [Is] at h ⊢
    obtain ⟨a, e1, hs⟩ := h
    exact ⟨a, e1, ex_l e hs⟩
  | .tup ds, _, h => by
    simp only [Is] at h ⊢
    obtain ⟨a, xs, e1, hs, ha⟩ := h
    exact ⟨a, xs, e1, ex_t e hs, IsAll.mono e ds ha⟩
theorem IsAll.mono (e : Ex H H') : ∀ (ds : List D) {vs : List V}, IsAll K H ds vs → IsAll K H' ds vs
  | [], _, h => by simpa only [IsAll] using h
  | d :: ds, _, h => by
    simp only [IsAll] at h ⊢
    obtain ⟨v, r, e1, h1, h2⟩ := h
    exact ⟨v, r, e1, Is.mono e d h1, IsAll.mono e ds h2⟩
end
theorem isAll_nil : IsAll K H [] [] := by simp only [IsAll]
theorem isAll_cons {d : D} {ds : List D} {v : V} {vs : List V} (h : Is K H d v) (h2 : IsAll K H ds vs) : IsAll K H (d :: ds) (v :: vs) := by
  simp only [IsAll]; exact ⟨v, vs, rfl, h, h2⟩
theorem IsAll.len : ∀ {ds : List D} {vs : List V}, IsAll K H ds vs → vs.length = ds.length
  | [], _, h => by simp only [IsAll] at h; rw [h]; rfl
  | d :: ds, _, h => by
    simp only [IsAll] at h
    obtain ⟨v, r, e1, _, h2⟩ := h
    rw [e1, List.length_cons, List.length_cons, IsAll.len h2]
theorem IsAll.get : ∀ {ds : List D} {vs : List V}, IsAll K H ds vs → ∀ (i : Nat) {d : D}, ds[i]? = some d → ∃ v, vs[i]? = some v ∧ Is K H d v
  | [], _, _, _, _, e => by simp at e
  | d :: ds, _, h, i, _, e => by
    simp only [IsAll] at h
    obtain ⟨v, r, e1, h1, h2⟩ := h
    subst e1
    cases i with
    | zero => simp at e; subst e; exact ⟨v, rfl, h1⟩
    | succ i => simpa using IsAll.get h2 i (by simpa using e)
theorem IsAll.app : ∀ {ds es : List D} {vs us : List V}, IsAll K H ds vs → IsAll K H es us → IsAll K H (ds ++ es) (vs ++ us)
  | [], _, _, _, h, k => by simp only [IsAll] at h; subst h; exact k
  | d :: ds, _, _, _, h, k => by
    simp only [IsAll] at h
    obtain ⟨v, r, e1, h1, h2⟩ := h
    subst e1
    exact isAll_cons h1 (IsAll.app h2 k)
theorem IsAll.drop : ∀ {ds : List D} {vs : List V} (n : Nat), IsAll K H ds vs → IsAll K H (ds.drop n) (vs.drop n)
  | _, _, 0, h => h
  | [], _, _ + 1, h => by simp only [IsAll] at h; subst h; exact isAll_nil
  | d :: ds, _, n + 1, h => by
    simp only [IsAll] at h
    obtain ⟨v, r, e1, h1, h2⟩ := h
    subst e1
    exact IsAll.drop n h2
theorem IsAll.take : ∀ {ds : List D} {vs : List V} (n : Nat), IsAll K H ds vs → IsAll K H (ds.take n) (vs.take n)
  | _, _, 0, _ => by simp only [List.take_zero]; exact isAll_nil
  | [], _, _ + 1, h => by simp only [IsAll] at h; subst h; exact isAll_nil
  | d :: ds, _, n + 1, h => by
    simp only [IsAll] at h
    obtain ⟨v, r, e1, h1, h2⟩ := h
    subst e1
    exact isAll_cons h1 (IsAll.take n h2)
theorem IsAll.rev : ∀ {ds : List D} {vs : List V}, IsAll K H ds vs → IsAll K H ds.reverse vs.reverse
  | [], _, h => by simp only [IsAll] at h; subst h; exact isAll_nil
  | d :: ds, _, h => by
    simp only [IsAll] at h
    obtain ⟨v, r, e1, h1, h2⟩ := h
    subst e1
    rw [List.reverse_cons, List.reverse_cons]
    exact IsAll.app (IsAll.rev h2) (isAll_cons h1 isAll_nil)
theorem IsAll.set : ∀ {ds : List D} {vs : List V} (i : Nat) {d : D} {v : V}, IsAll K H ds vs → Is K H d v → IsAll K H (ds.set i d) (vs.set i v)
  | [], _, _, _, _, h, _ => by simp only [IsAll] at h; subst h; exact isAll_nil
  | d :: ds, _, i, _, _, h, k => by
    simp only [IsAll] at h
    obtain ⟨v, r, e1, h1, h2⟩ := h
    subst e1
    cases i with
    | zero => exact isAll_cons k h2
    | succ i => exact isAll_cons h1 (IsAll.set i h2 k)
theorem IsAll.rep {ds : List D} {vs : List V} (h : IsAll K H ds vs) : ∀ k : Nat, IsAll K H (List.replicate k ds).flatten (List.replicate k vs).flatten
  | 0 => isAll_nil
  | k + 1 => by
    rw [List.replicate_succ, List.replicate_succ, List.flatten_cons, List.flatten_cons]
    exact IsAll.app h (IsAll.rep h k)
theorem IsAll.none_of {ds : List D} {vs : List V} (h : IsAll K H ds vs) {i : Nat} (e : ds[i]? = none) : vs[i]? = none := by
  have h1 := h.len
  have h2 : ds.length ≤ i := List.getElem?_eq_none_iff.mp e
  exact List.getElem?_eq_none_iff.mpr (by omega)
end

/-! ### exceptions and objects as values -/
def ExV (cls : Value) (d : Option Addr) (a : Addr) : HO := .ext fun h => ∃ (oe : Obj) (vs : Array Value), h.get? a = some oe ∧ Zc cls d oe ∧ oe.data = .fields vs
/-- the payload of an exception -/
def Pay (H : Hp) (d : Option Addr) : Option Int → Prop
  | none => d = none
  | some i => ∃ dd, d = some dd ∧ H dd = some (.xd [(("at" : Str), .int i)])
theorem Pay.mono {H H' : Hp} (e : Ex H H') {d : Option Addr} : ∀ {p : Option Int}, Pay H d p → Pay H' d p
  | none, h => h
  | some _, ⟨dd, e1, h⟩ => ⟨dd, e1, e _ _ h⟩
/-- an exception in flight -/
def XIs (mg : Str → Option Value) (H : Hp) (c : Str) (p : Option Int) (cls : Value) (d : Option Addr) : Prop := ∃ C : Addr, mg c = some (.ref C) ∧ cls = .ref C ∧ Pay H d p
theorem XIs.mono {mg : Str → Option Value} {H H' : Hp} (e : Ex H H') {c : Str} {p : Option Int} {cls : Value} {d : Option Addr} (h : XIs mg H c p cls d) : XIs mg H' c p cls d := by
  obtain ⟨C, a, b, q⟩ := h
  exact ⟨C, a, b, q.mono e⟩
def Flds (K : PySem.W.Frag) (H : Hp) : List (Str × D) → List (Str × V) → Prop
  | [], vs => vs = []
  | (f, d) :: fs, vs => ∃ v r, vs = (f, v) :: r ∧ Is K H d v ∧ Flds K H fs r
theorem Flds.mono {K : PySem.W.Frag} {H H' : Hp} (e : Ex H H') : ∀ {fs : List (Str × D)} {vs : List (Str × V)}, Flds K H fs vs → Flds K H' fs vs
  | [], _, h => h
  | (f, d) :: fs, _, ⟨v, r, e1, h1, h2⟩ => ⟨v, r, e1, Is.mono e d h1, Flds.mono e h2⟩

/-- v is s; fp: the addresses of one's own lists -/
def Own (K : PySem.W.Frag) (mg : Str → Option Value) (Hs H : Hp) : S → V → List Addr → Prop
  | .d d, v, fp => fp = [] ∧ Is K Hs d v
  | .x c p, v, fp => fp = [] ∧ ∃ a cls d, v = .ref a ∧ Hs a = some (ExV cls d a) ∧ XIs mg Hs c p cls d
  | .o c fs, v, fp => fp = [] ∧ ∃ a C dx vs, v = .ref a ∧ mg c = some (.ref C) ∧ Hs a = some (.ins C dx vs) ∧ Flds K Hs fs vs
  | .l xs, v, fp => ∃ p vs, v = .ref p ∧ fp = [p] ∧ H p = some (.lst vs) ∧ IsAll K Hs xs vs
  | .ll xss, v, fp => ∃ p ps, v = .ref p ∧ fp = p :: ps ∧ H p = some (.lst (ps.map V.ref)) ∧ Paired (fun q xs => ∃ vs, H q = some (.lst vs) ∧ IsAll K Hs xs vs) ps xss
  | .m c fs, v, fp => ∃ p C dx vs, v = .ref p ∧ fp = [p] ∧ mg c = some (.ref C) ∧ H p = some (.ins C dx vs) ∧ Flds K Hs fs vs

theorem Paired.impP {α β : Type} {R R' : α → β → Prop} : ∀ {l₁ : List α} {l₂ : List β}, Paired R l₁ l₂ → (∀ a b, R a b → R' a b) → Paired R' l₁ l₂
  | _, _, .nil, _ => .nil
  | _, _, .cons r t, f => .cons (f _ _ r) (Paired.impP t f)

/-- from the stable Hs and the whole H to Hs', H': all stands; what is stable anew is new -/
structure Grow (Hs H Hs' H' : Hp) : Prop where
  h : Ex H H'
  s : Ex Hs Hs'
  sh : Ex Hs' H'
  ap : ∀ a, Hs' a ≠ none → H a ≠ none → Hs a ≠ none
theorem Grow.refl {Hs H : Hp} (e : Ex Hs H) : Grow Hs H Hs H := ⟨Ex.refl _, Ex.refl _, e, fun _ h _ => h⟩
theorem ex_some {H H' : Hp} (e : Ex H H') {a : Addr} (h : H a ≠ none) : H' a ≠ none := by
  cases q : H a with
  | none => exact absurd q h
  | some o => rw [e a o q]; simp
theorem Grow.trans {A B A1 B1 A2 B2 : Hp} (x : Grow A B A1 B1) (y : Grow A1 B1 A2 B2) : Grow A B A2 B2 :=
  ⟨x.h.trans y.h, x.s.trans y.s, y.sh, fun a h1 h2 => x.ap a (y.ap a h1 (ex_some x.h h2)) h2⟩
/-- only the whole grows -/
theorem Grow.whole {Hs H H' : Hp} (e : Ex Hs H) (h : Ex H H') : Grow Hs H Hs H' := ⟨h, Ex.refl _, e.trans h, fun _ x _ => x⟩

theorem Own.mono {K : PySem.W.Frag} {mg : Str → Option Value} {Hs H Hs' H' : Hp} (a : Ex Hs Hs') (b : Ex H H') : ∀ {s : S} {v : V} {fp : List Addr}, Own K mg Hs H s v fp → Own K mg Hs' H' s v fp
  | .d d, _, _, ⟨e, h⟩ => ⟨e, Is.mono a d h⟩
  | .x _ _, _, _, ⟨e, q, cls, d, e1, h1, h2⟩ => ⟨e, q, cls, d, e1, a _ _ h1, h2.mono a⟩
  | .o _ _, _, _, ⟨e, q, C, dx, vs, e1, h1, h2, h3⟩ => ⟨e, q, C, dx, vs, e1, h1, a _ _ h2, h3.mono a⟩
  | .l xs, _, _, ⟨p, vs, e1, e2, h1, h2⟩ => ⟨p, vs, e1, e2, b _ _ h1, IsAll.mono a xs h2⟩
  | .ll xss, _, _, ⟨p, ps, e1, e2, h1, h2⟩ => ⟨p, ps, e1, e2, b _ _ h1, Paired.impP h2 fun q xs ⟨vs, h3, h4⟩ => ⟨vs, b _ _ h3, IsAll.mono a xs h4⟩⟩
  | .m _ _, _, _, ⟨p, C, dx, vs, e1, e2, h1, h2, h3⟩ => ⟨p, C, dx, vs, e1, e2, h1, b _ _ h2, h3.mono a⟩
theorem paired_mem {α β : Type} {R : α → β → Prop} : ∀ {l₁ : List α} {l₂ : List β}, Paired R l₁ l₂ → ∀ a ∈ l₁, ∃ b ∈ l₂, R a b
  | _, _, .cons r t, a, hm => by
    rcases List.mem_cons.mp hm with e | hm
    · subst e; exact ⟨_, List.mem_cons_self, r⟩
    · obtain ⟨b, hb, q⟩ := paired_mem t a hm
      exact ⟨b, List.mem_cons_of_mem _ hb, q⟩
/-- the own lists are there -/
theorem Own.there {K : PySem.W.Frag} {mg : Str → Option Value} {Hs H : Hp} : ∀ {s : S} {v : V} {fp : List Addr}, Own K mg Hs H s v fp → ∀ p ∈ fp, H p ≠ none
  | .d _, _, _, ⟨e, _⟩, p, hp => by rw [e] at hp; cases hp
  | .x _ _, _, _, ⟨e, _⟩, p, hp => by rw [e] at hp; cases hp
  | .o _ _, _, _, ⟨e, _⟩, p, hp => by rw [e] at hp; cases hp
  | .l _, _, _, ⟨q, vs, _, e, h, _⟩, p, hp => by
    rw [e] at hp
    have : p = q := by simpa using hp
    rw [this, h]; simp
  | .ll _, _, _, ⟨q, ps, _, e, h, h2⟩, p, hp => by
    rw [e] at hp
    rcases List.mem_cons.mp hp with e1 | e1
    · rw [e1, h]; simp
    · obtain ⟨_, _, vs, h3, _⟩ := paired_mem h2 p e1
      rw [h3]; simp
  | .m _ _, _, _, ⟨q, C, dx, vs, _, e, _, h, _⟩, p, hp => by
    rw [e] at hp
    have : p = q := by simpa using hp
    rw [this, h]; simp

/-- the slots -/
structure Slots (K : PySem.W.Frag) (mg : Str → Option Value) (F Hs H : Hp) (σ : St) (ρ : Env) (fp : Nat → List Addr) : Prop where
  own : ∀ i s, ρ[i]? = some (some s) → ∃ v, σ[i]? = some (some v) ∧ Own K mg Hs H s v (fp i)
  free : ∀ i p, p ∈ fp i → F p = none ∧ Hs p = none ∧ H p ≠ none
  sep : ∀ i j p, p ∈ fp i → p ∈ fp j → i = j
  nd : ∀ i, (fp i).Nodup
structure Rep (K : PySem.W.Frag) (mg : Str → Option Value) (F Gs Hs H : Hp) (σ : St) (ρ : Env) : Prop where
  len : σ.length = ρ.length
  gr : Grow Gs F Hs H
  sl : ∃ fp, Slots K mg F Hs H σ ρ fp
/-- a result: new lists of one's own lie apart from all that was in H -/
def Rs (K : PySem.W.Frag) (mg : Str → Option Value) (H Hs' H' : Hp) (s : S) (v : V) : Prop := ∃ fp, Own K mg Hs' H' s v fp ∧ (∀ p ∈ fp, H p = none ∧ Hs' p = none) ∧ fp.Nodup

section
variable {K : PySem.W.Frag} {mg : Str → Option Value} {F Gs Hs H Hs' H' : Hp} {σ : St} {ρ : Env}
theorem Rep.grow (r : Rep K mg F Gs Hs H σ ρ) (g : Grow Hs H Hs' H') : Rep K mg F Gs Hs' H' σ ρ := by
  obtain ⟨fp, s⟩ := r.sl
  refine ⟨r.len, r.gr.trans g, fp, fun i s' e => ?_, fun i p hp => ?_, s.sep, s.nd⟩
  · obtain ⟨v, e1, o⟩ := s.own i s' e
    exact ⟨v, e1, o.mono g.s g.h⟩
  · obtain ⟨h1, h2, h3⟩ := s.free i p hp
    refine ⟨h1, ?_, ex_some g.h h3⟩
    cases q : Hs' p with
    | none => rfl
    | some o => exact absurd h2 (g.ap p (by rw [q]; simp) h3)
theorem Rep.sh (r : Rep K mg F Gs Hs H σ ρ) : Ex Hs H := r.gr.sh
theorem Rs.d {d : D} {v : V} (h : Is K Hs' d v) : Rs K mg H Hs' H' (.d d) v := ⟨[], ⟨rfl, h⟩, (fun _ h => nomatch h), List.nodup_nil⟩
theorem Rs.is {d : D} {v : V} (h : Rs K mg H Hs' H' (.d d) v) : Is K Hs' d v := by
  obtain ⟨_, ⟨_, h⟩, _⟩ := h
  exact h
theorem Rs.mono {Hs2 H2 : Hp} {s : S} {v : V} (h : Rs K mg H Hs' H' s v) (gHH : Ex H H') (g : Grow Hs' H' Hs2 H2) : Rs K mg H Hs2 H2 s v := by
  obtain ⟨fp, o, f, n⟩ := h
  refine ⟨fp, o.mono g.s g.h, fun p hp => ⟨(f p hp).1, ?_⟩, n⟩
  cases q : Hs2 p with
  | none => rfl
  | some x => exact absurd (f p hp).2 (g.ap p (by rw [q]; simp) (o.there p hp))
end
end G

set_option Elab.async false
set_option linter.all false
set_option maxRecDepth 100000
set_option maxHeartbeats 2000000
namespace G
open PySem L2
open Evl (Ex ex_l ex_t ex_rd)

section
variable {α β γ w w2 : Type}
/-- what stands between a result and the value that comes -/
abbrev Rel (α w : Type) := Hp → Hp → Hp → α → w → Prop
def Anti (R : Rel α w) : Prop := ∀ H H' Hs2 H2 a v, Ex H H' → R H' Hs2 H2 a v → R H Hs2 H2 a v
def Post (R : Rel α w) (mg : Str → Option Value) (W : WX) (σ : St) (Hs H : Hp) (r : Out α) (Q : w → Hp → Prop) : Prop := match r with
  | .ok a => ∀ v Hs' H', Grow Hs H Hs' H' → R H Hs' H' a v → Q v H'
  | .exc c p => ∀ cls d Hs' H', Grow Hs H Hs' H' → XIs mg H' c p cls d → W cls d σ H'
  | .stuck => False
/-- the reading -/
def tG (R : Rel α w) (K : PySem.W.Frag) (mg : Str → Option Value) (W : WX) (f : Env → Out α) : St → Hp → (w → Hp → Prop) → Prop := fun σ H Q =>
  ∃ F Gs Hs ρ, Rep K mg F Gs Hs H σ ρ ∧ Post R mg W σ Hs H (f ρ) Q
def RD (K : PySem.W.Frag) : Rel D V := fun _ Hs' _ d v => Is K Hs' d v
def RB (K : PySem.W.Frag) : Rel D V := fun _ _ H' d v => Is K H' d v
def RE (K : PySem.W.Frag) (mg : Str → Option Value) : Rel S V := fun H Hs' H' s v => Rs K mg H Hs' H' s v
def RT : Rel Bool Bool := fun _ _ _ b v => v = b
def RA (K : PySem.W.Frag) : Rel (List D) (List V) := fun _ Hs' _ ds vs => IsAll K Hs' ds vs
def RO : Rel (Option Int) (Option Int) := fun _ _ _ b v => v = b
theorem anti_D {K} : Anti (RD K) := fun _ _ _ _ _ _ _ h => h
theorem anti_B {K} : Anti (RB K) := fun _ _ _ _ _ _ _ h => h
theorem anti_T : Anti RT := fun _ _ _ _ _ _ _ h => h
theorem anti_O : Anti RO := fun _ _ _ _ _ _ _ h => h
theorem anti_A {K} : Anti (RA K) := fun _ _ _ _ _ _ _ h => h
theorem anti_E {K mg} : Anti (RE K mg) := fun H H' Hs2 H2 s v e ⟨fp, o, f, n⟩ => ⟨fp, o, fun p hp => ⟨Evl.fresh_back e (f p hp).1, (f p hp).2⟩, n⟩

variable {R : Rel α w} {R2 : Rel β w2} {mg : Str → Option Value} {W : WX} {σ : St} {Hs H Hs' H' : Hp} {K : PySem.W.Frag}
theorem Post.mono (an : Anti R) {r : Out α} {Q : w → Hp → Prop} (h : Post R mg W σ Hs H r Q) (g : Grow Hs H Hs' H') : Post R mg W σ Hs' H' r Q := by
  cases r with
  | ok a => exact fun v Hs2 H2 g2 hr => h v Hs2 H2 (g.trans g2) (an _ _ _ _ _ _ g.h hr)
  | exc c p => exact fun cls d Hs2 H2 g2 hx => h cls d Hs2 H2 (g.trans g2) hx
  | stuck => exact h
theorem Post.imp {r : Out α} {Q Q' : w → Hp → Prop} (h : Post R mg W σ Hs H r Q) (k : ∀ v H', Q v H' → Q' v H') : Post R mg W σ Hs H r Q' := by
  cases r with
  | ok a => exact fun v Hs2 H2 g2 hr => k _ _ (h v Hs2 H2 g2 hr)
  | exc c p => exact h
  | stuck => exact h
theorem Post.seq (an : Anti R2) {r : Out α} {k : α → Out β} {Q : w2 → Hp → Prop} (h : Post R2 mg W σ Hs H (r.bind k) Q) :
    Post R mg W σ Hs H r (fun v H1 => ∃ Hs1 a, Grow Hs H Hs1 H1 ∧ R H Hs1 H1 a v ∧ Post R2 mg W σ Hs1 H1 (k a) Q) := by
  cases r with
  | ok a => exact fun v Hs2 H2 g2 hr => ⟨Hs2, a, g2, hr, Post.mono an h g2⟩
  | exc c p => exact h
  | stuck => exact h
theorem Post.now {a : α} {Q : w → Hp → Prop} (h : Post R mg W σ Hs H (.ok a) Q) {v : w} (e : Ex Hs H) (hr : R H Hs H a v) : Q v H := h v Hs H (Grow.refl e) hr
theorem Post.later {a : α} {Q : w → Hp → Prop} (h : Post R mg W σ Hs H (.ok a) Q) {v : w} (g : Grow Hs H Hs' H') (hr : R H Hs' H' a v) : Q v H' := h v Hs' H' g hr
end

/-! ### judgements -/
structure HD (X : Cx) (W : WX) (e : Expr) (f : Env → Out D) : Prop where
  pe : PE X e (tG (RD X.K) X.K X.mg W f)
structure HB (X : Cx) (W : WX) (e : Expr) (f : Env → Out D) : Prop where
  pe : PE X e (tG (RB X.K) X.K X.mg W f)
structure HE (X : Cx) (W : WX) (e : Expr) (f : Env → Out S) : Prop where
  pe : PE X e (tG (RE X.K X.mg) X.K X.mg W f)
structure HT (X : Cx) (W : WX) (e : Expr) (f : Env → Out Bool) : Prop where
  pt : PT X e (tG RT X.K X.mg W f)
structure HW (X : Cx) (W : WX) (e : Expr) (f : Env → Out Bool) : Prop where
  pw : PW X e (tG RT X.K X.mg W f)
structure HA (X : Cx) (W : WX) (es : List Expr) (f : Env → Out (List D)) : Prop where
  pa : PA X es (tG (RA X.K) X.K X.mg W f)

section
variable {X : Cx} {W : WX} {e a b c : Expr} {es : List Expr} {pos : Pos}
theorem PE.imp {t t' : TE} (h : PE X e t) (k : ∀ σ H Q, t' σ H Q → t σ H Q) : PE X e t' := ⟨fun pins s σ H Q I q => h.run pins s σ H Q I (k _ _ _ q)⟩
theorem PT.imp {t t' : TT} (h : PT X e t) (k : ∀ σ H Q, t' σ H Q → t σ H Q) : PT X e t' := ⟨fun pins s σ H Q I q => h.run pins s σ H Q I (k _ _ _ q)⟩
theorem PW.imp {t t' : TT} (h : PW X e t) (k : ∀ σ H Q, t' σ H Q → t σ H Q) : PW X e t' := ⟨fun wh pins s σ H Q I q => h.run wh pins s σ H Q I (k _ _ _ q)⟩
theorem PA.imp {t t' : TA} (h : PA X es t) (k : ∀ σ H Q, t' σ H Q → t σ H Q) : PA X es t' := ⟨fun p pins s σ H Q I q => h.run p pins s σ H Q I (k _ _ _ q)⟩
theorem HW.t {f : Env → Out Bool} (h : HW X W e f) : HT X W e f := ⟨h.pw.pt⟩

/-! ### between them -/
theorem hb_of {f : Env → Out D} (h : HD X W e f) : HB X W e f := ⟨PE.imp h.pe fun σ H Q ⟨F, Gs, Hs, ρ, r, p⟩ => ⟨F, Gs, Hs, ρ, r, by
  cases q : f ρ with
  | ok d => rw [q] at p; exact fun v Hs' H' g hr => p v Hs' H' g (Is.mono g.sh d hr)
  | exc c p' => rw [q] at p; exact p
  | stuck => rw [q] at p; exact p⟩⟩
def S.fz : S → Out D
  | .d y => .ok y
  | .l xs => .ok (.lst xs)
  | .ll xss => .ok (.lst (xss.map .lst))
  | _ => .stuck
/-- the own lists at fp stay from now on -/
def addH (Hs H : Hp) (fp : List Addr) : Hp := fun a => if a ∈ fp then H a else Hs a
theorem addH_ex {Hs H : Hp} {fp : List Addr} (h : ∀ p ∈ fp, Hs p = none) : Ex Hs (addH Hs H fp) := fun a o e => by
  unfold addH
  by_cases q : a ∈ fp
  · rw [h a q] at e; cases e
  · rw [if_neg q]; exact e
theorem addH_sh {Hs H : Hp} {fp : List Addr} (h : Ex Hs H) : Ex (addH Hs H fp) H := fun a o e => by
  unfold addH at e
  by_cases q : a ∈ fp
  · rw [if_pos q] at e; exact e
  · rw [if_neg q] at e; exact h a o e
theorem addH_in {Hs H : Hp} {fp : List Addr} {p : Addr} (h : p ∈ fp) : addH Hs H fp p = H p := if_pos h
theorem isAll_refs {K : PySem.W.Frag} {Hs H : Hp} {fp : List Addr} (hx : Ex Hs (addH Hs H fp)) : ∀ {ps : List Addr} {xss : List (List D)}, (∀ p ∈ ps, p ∈ fp) → Paired (fun q xs => ∃ vs, H q = some (.lst vs) ∧ IsAll K Hs xs vs) ps xss → IsAll K (addH Hs H fp) (xss.map .lst) (ps.map V.ref)
  | _, _, _, .nil => isAll_nil
  | p :: ps, xs :: xss, hs, .cons ⟨vs, h1, h2⟩ t => by
    refine isAll_cons ?_ (isAll_refs hx (fun q hq => hs q (List.mem_cons_of_mem _ hq)) t)
    simp only [Is]
    exact ⟨p, vs, rfl, (by rw [addH_in (hs p List.mem_cons_self)]; exact h1), IsAll.mono hx xs h2⟩
/-- frozen -/
theorem own_fz {K : PySem.W.Frag} {mg : Str → Option Value} {Hs H : Hp} {s : S} {d : D} {v : V} {fp : List Addr} (o : Own K mg Hs H s v fp) (h : s.fz = .ok d) (hf : ∀ p ∈ fp, Hs p = none) : Is K (addH Hs H fp) d v := by
  have hx : Ex Hs (addH Hs H fp) := addH_ex hf
  cases s with
  | d d' =>
    obtain ⟨_, o⟩ := o
    have e : d' = d := by simpa [S.fz] using h
    subst e; exact Is.mono hx _ o
  | x _ _ => simp [S.fz] at h
  | o _ _ => simp [S.fz] at h
  | m _ _ => simp [S.fz] at h
  | l xs =>
    obtain ⟨p, vs, e1, e2, h1, h2⟩ := o
    have e : D.lst xs = d := by simpa [S.fz] using h
    subst e
    simp only [Is]
    exact ⟨p, vs, e1, (by rw [addH_in (by rw [e2]; simp)]; exact h1), IsAll.mono hx xs h2⟩
  | ll xss =>
    obtain ⟨p, ps, e1, e2, h1, h2⟩ := o
    have e : D.lst (xss.map .lst) = d := by simpa [S.fz] using h
    subst e
    simp only [Is]
    exact ⟨p, _, e1, (by rw [addH_in (by rw [e2]; simp)]; exact h1), isAll_refs hx (fun q hq => by rw [e2]; exact List.mem_cons_of_mem _ hq) h2⟩
theorem rs_fz {K : PySem.W.Frag} {mg : Str → Option Value} {H Hs' H' Hs : Hp} {s : S} {d : D} {v : V} (g : Grow Hs H Hs' H') (r : Rs K mg H Hs' H' s v) (h : s.fz = .ok d) : ∃ Hs2, Grow Hs H Hs2 H' ∧ Ex Hs' Hs2 ∧ Is K Hs2 d v := by
  obtain ⟨fp, o, f, n⟩ := r
  have hx : Ex Hs' (addH Hs' H' fp) := addH_ex fun p hp => (f p hp).2
  refine ⟨addH Hs' H' fp, ⟨g.h, g.s.trans hx, addH_sh g.sh, fun a h1 h2 => ?_⟩, hx, own_fz o h fun p hp => (f p hp).2⟩
  by_cases q : a ∈ fp
  · exact absurd (f a q).1 h2
  · unfold addH at h1
    rw [if_neg q] at h1
    exact g.ap a h1 h2
/-- a fresh list, frozen at once -/
theorem hd_of {f : Env → Out S} (h : HE X W e f) : HD X W e (fun ρ => (f ρ).bind S.fz) := ⟨PE.imp h.pe fun σ H Q ⟨F, Gs, Hs, ρ, r, p⟩ => ⟨F, Gs, Hs, ρ, r, by
  dsimp only at p
  cases q : f ρ with
  | ok s =>
    rw [q] at p
    intro v Hs' H' g hr
    cases z : s.fz with
    | ok d =>
      have p' : Post (RD X.K) X.mg W σ Hs H (.ok d) Q := by rw [← z]; exact p
      obtain ⟨Hs2, g2, _, i2⟩ := rs_fz g hr z
      exact p' v Hs2 H' g2 i2
    | exc c p' => cases s <;> simp [S.fz] at z
    | stuck =>
      have p' : Post (RD X.K) X.mg W σ Hs H .stuck Q := by rw [← z]; exact p
      exact p'.elim
  | exc c p' => rw [q] at p; exact p
  | stuck => rw [q] at p; exact p⟩⟩
theorem he_of {f : Env → Out D} (h : HD X W e f) : HE X W e (fun ρ => (f ρ).bind fun d => .ok (.d d)) := ⟨PE.imp h.pe fun σ H Q ⟨F, Gs, Hs, ρ, r, p⟩ => ⟨F, Gs, Hs, ρ, r, (Post.seq anti_E p).imp fun v H1 ⟨Hs1, d, g1, h1, p1⟩ => p1.now g1.sh (Rs.d h1)⟩⟩
/-- the same value under another name -/
theorem HD.eq {f g : Env → Out D} (h : HD X W e f) (q : ∀ ρ, f ρ = g ρ) : HD X W e g := by
  have : f = g := funext q
  rw [← this]; exact h

/-! ### names and constants -/
def dC (d : D) : Env → Out D := fun _ => .ok d
def dV (i : Nat) : Env → Out D := fun ρ => match ρ[i]? with
  | some (some (.d d)) => .ok d
  | _ => .stuck
/-- a constant -/
theorem hd_c {v : V} {d : D} (h : PE X e (tC v)) (hi : ∀ Hs, Is X.K Hs d v) : HD X W e (dC d) := ⟨PE.imp h fun σ H Q ⟨F, Gs, Hs, ρ, r, p⟩ => p.now r.sh (hi Hs)⟩
theorem hd_int {i j} : HD X W (.Constant (.int i) j pos) (dC (.int i)) := hd_c pe_int fun _ => by simp only [Is]
theorem hd_bl {i j} : HD X W (.Constant (.bool i) j pos) (dC (.bl i)) := hd_c pe_bl fun _ => by simp only [Is]
theorem hd_str {i j} : HD X W (.Constant (.str i) j pos) (dC (.str i)) := hd_c pe_str fun _ => by simp only [Is]
theorem hd_non {j} : HD X W (.Constant .none j pos) (dC .non) := hd_c pe_non fun _ => by simp only [Is]
theorem hd_gint {x : Str} {i : Int} {t : Tok} (hg : Gl X x) (hm : X.mg x = some (.int i t)) (hd : (x == ("__debug__" : Str)) = false := by decide) : HD X W (.Name x pos) (dC (.int i)) := hd_c (pe_glob hg hm (v := .int i) ⟨t, rfl⟩ hd) fun _ => by simp only [Is]
theorem hd_gstr {x : Str} {i : Str} {t : Tok} (hg : Gl X x) (hm : X.mg x = some (.str i t)) (hd : (x == ("__debug__" : Str)) = false := by decide) : HD X W (.Name x pos) (dC (.str i)) := hd_c (pe_glob hg hm (v := .str i) ⟨t, rfl⟩ hd) fun _ => by simp only [Is]
theorem hd_v (i : Nat) {x : Str} (hN : X.N[i]? = some x := by rfl) (hv : Vis X.env.scope x := by first | exact Or.inl rfl | exact Or.inr (Or.inl rfl) | exact Or.inr (Or.inr rfl)) (hd : (x == ("__debug__" : Str)) = false := by decide)
    (hcd : (x == ("__classdict__" : Str)) = false := by decide) : HD X W (.Name x pos) (dV i) := ⟨PE.imp (pe_var hN hv hd hcd) fun σ H Q ⟨F, Gs, Hs, ρ, r, p⟩ => by
  unfold dV at p
  split at p
  · rename_i d e
    obtain ⟨fp, s⟩ := r.sl
    obtain ⟨v, e1, _, o⟩ := s.own i _ e
    exact ⟨v, e1, p.now r.sh o⟩
  · exact p.elim⟩
/-- an own list, borrowed -/
def dOwn (i : Nat) : Env → Out D := fun ρ => match ρ[i]? with
  | some (some s) => s.fz
  | _ => .stuck
theorem own_bor {K : PySem.W.Frag} {mg : Str → Option Value} {Hs H : Hp} {s : S} {d : D} {v : V} {fp : List Addr} (o : Own K mg Hs H s v fp) (h : s.fz = .ok d) (e : Ex Hs H) (hf : ∀ p ∈ fp, Hs p = none) : Is K H d v := Is.mono (addH_sh e) d (own_fz o h hf)
theorem hb_v (i : Nat) {x : Str} (hN : X.N[i]? = some x := by rfl) (hv : Vis X.env.scope x := by first | exact Or.inl rfl | exact Or.inr (Or.inl rfl) | exact Or.inr (Or.inr rfl)) (hd : (x == ("__debug__" : Str)) = false := by decide)
    (hcd : (x == ("__classdict__" : Str)) = false := by decide) : HB X W (.Name x pos) (dOwn i) := ⟨PE.imp (pe_var hN hv hd hcd) fun σ H Q ⟨F, Gs, Hs, ρ, r, p⟩ => by
  unfold dOwn at p
  split at p
  · rename_i s e
    obtain ⟨fp, sl⟩ := r.sl
    obtain ⟨v, e1, o⟩ := sl.own i _ e
    cases z : s.fz with
    | ok d =>
      rw [z] at p
      exact ⟨v, e1, p.now r.sh (own_bor o z r.sh fun q hq => (sl.free i q hq).2.1)⟩
    | exc c p' => cases s <;> simp [S.fz] at z
    | stuck => rw [z] at p; exact p.elim
  · exact p.elim⟩

/-! ### two operands -/
def d2 {α : Type} (op : D → D → Out α) (f g : Env → Out D) : Env → Out α := fun ρ => (f ρ).bind fun x => (g ρ).bind fun y => op x y
def d1 {α : Type} (op : D → Out α) (f : Env → Out D) : Env → Out α := fun ρ => (f ρ).bind fun x => op x
theorem bin_read {α w : Type} {R : Rel α w} (an : Anti R) {f g : Env → Out D} {op : D → D → Out α} {σ : St} {H : Hp} {Q : w → Hp → Prop} {K : PySem.W.Frag} {mg : Str → Option Value} {Q' : V → V → Hp → Prop} (h : tG R K mg W (d2 op f g) σ H Q)
    (hr : ∀ a b x y Hs H', Ex Hs H' → Is K Hs a x → Is K Hs b y → Post R mg W σ Hs H' (op a b) Q → Q' x y H') : tG (RD K) K mg W f σ H fun x H1 => tG (RD K) K mg W g σ H1 fun y H2 => Q' x y H2 := by
  obtain ⟨F, Gs, Hs, ρ, r, p⟩ := h
  refine ⟨F, Gs, Hs, ρ, r, (Post.seq an p).imp fun v H1 ⟨Hs1, a, g1, ha, p1⟩ => ?_⟩
  refine ⟨F, Gs, Hs1, ρ, r.grow g1, (Post.seq an p1).imp fun u H2 ⟨Hs2, b, g2, hb, p2⟩ => ?_⟩
  exact hr a b v u Hs2 H2 g2.sh (Is.mono g2.s a ha) hb p2
theorem bin_readB {α w : Type} {R : Rel α w} (an : Anti R) {f g : Env → Out D} {op : D → D → Out α} {σ : St} {H : Hp} {Q : w → Hp → Prop} {K : PySem.W.Frag} {mg : Str → Option Value} {Q' : V → V → Hp → Prop} (h : tG R K mg W (d2 op f g) σ H Q)
    (hr : ∀ a b x y Hs H', Ex Hs H' → Is K H' a x → Is K H' b y → Post R mg W σ Hs H' (op a b) Q → Q' x y H') : tG (RB K) K mg W f σ H fun x H1 => tG (RB K) K mg W g σ H1 fun y H2 => Q' x y H2 := by
  obtain ⟨F, Gs, Hs, ρ, r, p⟩ := h
  refine ⟨F, Gs, Hs, ρ, r, (Post.seq an p).imp fun v H1 ⟨Hs1, a, g1, ha, p1⟩ => ?_⟩
  refine ⟨F, Gs, Hs1, ρ, r.grow g1, (Post.seq an p1).imp fun u H2 ⟨Hs2, b, g2, hb, p2⟩ => ?_⟩
  exact hr a b v u Hs2 H2 g2.sh (Is.mono g2.h a ha) hb p2
/-- an operator, by data -/
def OpD (X : Cx) (r : R2) (op : D → D → Out D) : Prop := ∀ (W : WX) (σ : St) (a b : D) (x y : V) (Hs H : Hp) (Q : VK), Ex Hs H → Is X.K Hs a x → Is X.K Hs b y → Post (RD X.K) X.mg W σ Hs H (op a b) Q → r x y H Q
/-- .. its operands borrowed -/
def OpB (X : Cx) (r : R2) (op : D → D → Out D) : Prop := ∀ (W : WX) (σ : St) (a b : D) (x y : V) (Hs H : Hp) (Q : VK), Ex Hs H → Is X.K H a x → Is X.K H b y → Post (RD X.K) X.mg W σ Hs H (op a b) Q → r x y H Q
theorem OpB.d {r : R2} {op : D → D → Out D} (h : OpB X r op) : OpD X r op := fun W σ a b x y Hs H Q e ha hb p => h W σ a b x y Hs H Q e (Is.mono e a ha) (Is.mono e b hb) p
theorem hd_bin {o : Operator} {r : R2} {op : D → D → Out D} {f g : Env → Out D} (ho : OpR X (binaryOp o) r) (hr : OpD X r op) (ha : HD X W a f) (hb : HD X W b g) : HD X W (.BinOp a o b pos) (d2 op f g) :=
  ⟨PE.imp (pe_op ho ha.pe hb.pe) fun σ H Q h => bin_read anti_D h fun a b x y Hs H' e i1 i2 p => hr W σ a b x y Hs H' Q e i1 i2 p⟩
theorem hd_cmp {o : CmpOp} {r : R2} {op : D → D → Out D} {f g : Env → Out D} (ho : OpR X (compareOp o) r) (hr : OpD X r op) (ha : HD X W a f) (hb : HD X W b g) (hm : behindInMarks o b = false) : HD X W (.Compare a [o] [b] pos) (d2 op f g) :=
  ⟨PE.imp (pe_cmpR ho ha.pe hb.pe hm) fun σ H Q h => bin_read anti_D h fun a b x y Hs H' e i1 i2 p => hr W σ a b x y Hs H' Q e i1 i2 p⟩
theorem hd_cmpB {o : CmpOp} {r : R2} {op : D → D → Out D} {f g : Env → Out D} (ho : OpR X (compareOp o) r) (hr : OpB X r op) (ha : HB X W a f) (hb : HB X W b g) (hm : behindInMarks o b = false) : HD X W (.Compare a [o] [b] pos) (d2 op f g) :=
  ⟨PE.imp (pe_cmpR ho ha.pe hb.pe hm) fun σ H Q h => bin_readB anti_D h fun a b x y Hs H' e i1 i2 p => hr W σ a b x y Hs H' Q e i1 i2 p⟩
end
end G

set_option Elab.async false
set_option linter.all false
set_option maxRecDepth 100000
set_option maxHeartbeats 2000000
namespace G
open PySem L2
open Evl (Ex ex_l ex_t ex_rd)

def cap : Nat := 1000000
theorem cap_le {n : Nat} (h : n ≤ cap) : n ≤ sizeLine := Nat.le_trans h (by decide)
theorem cap_lt {n : Nat} (h : n ≤ cap) : n < sizeLine := Nat.lt_of_le_of_lt h (by decide)
/-- go on where it holds -/
def guard' {α : Type} (c : Prop) [Decidable c] (r : Out α) : Out α := if c then r else .stuck
theorem guard_ok {α w : Type} {R : Rel α w} {mg : Str → Option Value} {W : WX} {σ : St} {Hs H : Hp} {c : Prop} [Decidable c] {r : Out α} {Q : w → Hp → Prop} (h : Post R mg W σ Hs H (guard' c r) Q) : c ∧ Post R mg W σ Hs H r Q := by
  unfold guard' at h
  by_cases hc : c
  · rw [if_pos hc] at h; exact ⟨hc, h⟩
  · rw [if_neg hc] at h; exact h.elim

/-! ### the operators by data -/
def addD : D → D → Out D
  | .int a, .int b => .ok (.int (a + b))
  | .str a, .str b => guard' (a.length + b.length ≤ cap) (.ok (.str (a ++ b)))
  | .tup a, .tup b => guard' (a.length + b.length ≤ cap) (.ok (.tup (a ++ b)))
  | _, _ => .stuck
def subD : D → D → Out D
  | .int a, .int b => .ok (.int (a - b))
  | _, _ => .stuck
def big : Nat := 2 ^ 400
def mulOk (a b : Int) : Prop := a.natAbs < 18446744073709551616 ∨ b.natAbs < 18446744073709551616 ∨ (a.natAbs < big ∧ b.natAbs < big)
instance (a b : Int) : Decidable (mulOk a b) := inferInstanceAs (Decidable (_ ∨ _ ∨ (_ ∧ _)))
def mulD : D → D → Out D
  | .int a, .int b => guard' (mulOk a b) (.ok (.int (a * b)))
  | _, _ => .stuck
def big2 : Nat := 2 ^ 800
def divOk (b : Int) : Prop := 0 < b ∧ b.natAbs < big2
instance (b : Int) : Decidable (divOk b) := inferInstanceAs (Decidable (_ ∧ _))
def divD : D → D → Out D
  | .int a, .int b => guard' (divOk b) (.ok (.int (a / b)))
  | _, _ => .stuck
def modD : D → D → Out D
  | .int a, .int b => guard' (0 < b) (.ok (.int (a % b)))
  | _, _ => .stuck
def powOk (a b : Int) : Prop := 0 ≤ b ∧ b ≤ 1000 ∧ a.natAbs < 18446744073709551616
instance (a b : Int) : Decidable (powOk a b) := inferInstanceAs (Decidable (_ ∧ _))
def powD : D → D → Out D
  | .int a, .int b => guard' (powOk a b) (.ok (.int (a ^ b.toNat)))
  | _, _ => .stuck
def ltD : D → D → Out D
  | .int a, .int b => .ok (.bl (decide (a < b)))
  | _, _ => .stuck
def leD : D → D → Out D
  | .int a, .int b => .ok (.bl (decide (a ≤ b)))
  | _, _ => .stuck
def gtD : D → D → Out D
  | .int a, .int b => .ok (.bl (decide (b < a)))
  | _, _ => .stuck
def geD : D → D → Out D
  | .int a, .int b => .ok (.bl (decide (b ≤ a)))
  | _, _ => .stuck
mutual
def py : D → PyData
  | .non => .none
  | .bl b => .bool b
  | .int i => .int i
  | .str x => .str x
  | .lst xs => .list (pyAll xs)
  | .tup xs => .tuple (pyAll xs)
  | .scr ns => .list (ns.map .int)
def pyAll : List D → List PyData
  | [] => []
  | x :: xs => py x :: pyAll xs
end
theorem plain_ints : ∀ ns : List Int, PyData.plainAll (ns.map .int) = true
  | [] => by simp only [List.map_nil, PyData.plainAll]
  | n :: ns => by simp only [List.map_cons, PyData.plainAll, PyData.plain, plain_ints ns, Bool.and_self]
mutual
theorem py_plain : ∀ d : D, (py d).plain = true
  | .non => by simp only [py, PyData.plain]
  | .bl _ => by simp only [py, PyData.plain]
  | .int _ => by simp only [py, PyData.plain]
  | .str _ => by simp only [py, PyData.plain]
  | .lst xs => by simp only [py, PyData.plain]; exact pyAll_plain xs
  | .tup xs => by simp only [py, PyData.plain]; exact pyAll_plain xs
  | .scr ns => by simp only [py, PyData.plain]; exact plain_ints ns
theorem pyAll_plain : ∀ ds : List D, PyData.plainAll (pyAll ds) = true
  | [] => by simp only [pyAll, PyData.plainAll]
  | d :: ds => by simp only [pyAll, PyData.plainAll, py_plain d, pyAll_plain ds, Bool.and_self]
end
section
variable {K : PySem.W.Frag} {H : Hp}
theorem dp_ints : ∀ ns : List Int, DpAll K H (ns.map V.int) (ns.map .int)
  | [] => .nil
  | n :: ns => .cons (.int n) (dp_ints ns)
mutual
theorem is_dp : ∀ (d : D) {v : V}, Is K H d v → Dp K H v (py d)
  | .non, _, h => by simp only [Is] at h; subst h; simp only [py]; exact .non
  | .bl b, _, h => by simp only [Is] at h; subst h; simp only [py]; exact .bl b
  | .int i, _, h => by simp only [Is] at h; subst h; simp only [py]; exact .int i
  | .str i, _, h => by simp only [Is] at h; subst h; simp only [py]; exact .str i
  | .lst ds, _, h => by
    simp only [Is] at h
    obtain ⟨a, xs, e, hs, ha⟩ := h
    subst e; simp only [py]; exact .lst (SqL.of hs) (isAll_dp ds ha)
  | .tup ds, _, h => by
    simp only [Is] at h
    obtain ⟨a, xs, e, hs, ha⟩ := h
    subst e; simp only [py]; exact .tup hs (isAll_dp ds ha)
  | .scr ns, _, h => by
    simp only [Is] at h
    obtain ⟨a, e, hs⟩ := h
    subst e; simp only [py]; exact .lst hs (dp_ints ns)
theorem isAll_dp : ∀ (ds : List D) {vs : List V}, IsAll K H ds vs → DpAll K H vs (pyAll ds)
  | [], _, h => by simp only [IsAll] at h; subst h; simp only [pyAll]; exact .nil
  | d :: ds, _, h => by
    simp only [IsAll] at h
    obtain ⟨v, r, e, h1, h2⟩ := h
    subst e; simp only [pyAll]; exact .cons (is_dp d h1) (isAll_dp ds h2)
end
end
mutual
/-- as deep as n at most -/
def shal : Nat → D → Bool
  | 0, _ => false
  | n + 1, .lst xs => shalAll n xs
  | n + 1, .tup xs => shalAll n xs
  | _ + 1, .non => true
  | _ + 1, .bl _ => true
  | _ + 1, .int _ => true
  | _ + 1, .str _ => true
  | _ + 1, .scr _ => false
def shalAll : Nat → List D → Bool
  | _, [] => true
  | n, x :: xs => shal n x && shalAll n xs
end
mutual
theorem shal_depth : ∀ (d : D) (n : Nat), shal n d = true → (py d).depth < n + 1
  | d, 0, h => by unfold shal at h; cases h
  | .non, n + 1, _ => by simp only [py, PyData.depth]; omega
  | .bl _, n + 1, _ => by simp only [py, PyData.depth]; omega
  | .int _, n + 1, _ => by simp only [py, PyData.depth]; omega
  | .str _, n + 1, _ => by simp only [py, PyData.depth]; omega
  | .scr _, n + 1, h => by simp only [shal] at h; cases h
  | .lst xs, n + 1, h => by
    have q := shalAll_depth xs n (by simpa only [shal] using h)
    simp only [py, PyData.depth]; omega
  | .tup xs, n + 1, h => by
    have q := shalAll_depth xs n (by simpa only [shal] using h)
    simp only [py, PyData.depth]; omega
theorem shalAll_depth : ∀ (ds : List D) (n : Nat), shalAll n ds = true → PyData.depthAll (pyAll ds) < n + 1
  | [], n, _ => by simp only [pyAll, PyData.depthAll]; omega
  | d :: ds, n, h => by
    simp only [shalAll, Bool.and_eq_true] at h
    have q1 := shal_depth d n h.1
    have q2 := shalAll_depth ds n h.2
    simp only [pyAll, PyData.depthAll]; omega
end
/-- == -/
def eqv (d e : D) : Bool := PyData.eqv (py d) (py e)
def eqvAll (ds es : List D) : Bool := PyData.eqvAll (pyAll ds) (pyAll es)
theorem eqv_py (d e : D) : PyData.eqv (py d) (py e) = eqv d e := rfl
theorem eqvAll_py (d e : List D) : PyData.eqvAll (pyAll d) (pyAll e) = eqvAll d e := rfl
section
variable (a b : Int) (x y : Str) (p q : Bool) (d e : D) (xs ys : List D)
theorem eqv_ii : eqv (.int a) (.int b) = (a == b) := by simp only [eqv, py, PyData.eqv]
theorem eqv_ss : eqv (.str x) (.str y) = (x == y) := by simp only [eqv, py, PyData.eqv]
theorem eqv_bb : eqv (.bl p) (.bl q) = (p == q) := by simp only [eqv, py, PyData.eqv]
theorem eqv_bi : eqv (.bl p) (.int a) = ((if p then 1 else 0) == a) := by simp only [eqv, py, PyData.eqv]
theorem eqv_ib : eqv (.int a) (.bl p) = (a == (if p then 1 else 0)) := by simp only [eqv, py, PyData.eqv]
theorem eqv_nn : eqv .non .non = true := by simp only [eqv, py, PyData.eqv]
theorem eqv_ll : eqv (.lst xs) (.lst ys) = eqvAll xs ys := by simp only [eqv, py, PyData.eqv, eqvAll]
theorem eqv_tt : eqv (.tup xs) (.tup ys) = eqvAll xs ys := by simp only [eqv, py, PyData.eqv, eqvAll]
theorem eqv_nb : eqv .non (.bl p) = false := by simp only [eqv, py, PyData.eqv]
theorem eqv_ni : eqv .non (.int a) = false := by simp only [eqv, py, PyData.eqv]
theorem eqv_ns : eqv .non (.str x) = false := by simp only [eqv, py, PyData.eqv]
theorem eqv_nl : eqv .non (.lst xs) = false := by simp only [eqv, py, PyData.eqv]
theorem eqv_nt : eqv .non (.tup xs) = false := by simp only [eqv, py, PyData.eqv]
theorem eqv_in : eqv (.int a) .non = false := by simp only [eqv, py, PyData.eqv]
theorem eqv_is : eqv (.int a) (.str x) = false := by simp only [eqv, py, PyData.eqv]
theorem eqv_si : eqv (.str x) (.int a) = false := by simp only [eqv, py, PyData.eqv]
theorem eqv_sl : eqv (.str x) (.lst xs) = false := by simp only [eqv, py, PyData.eqv]
theorem eqv_ls : eqv (.lst xs) (.str x) = false := by simp only [eqv, py, PyData.eqv]
theorem eqvAll_nil : eqvAll [] [] = true := by simp only [eqvAll, pyAll, PyData.eqvAll]
theorem eqvAll_nc : eqvAll [] (e :: ys) = false := by simp only [eqvAll, pyAll, PyData.eqvAll]
theorem eqvAll_cn : eqvAll (d :: xs) [] = false := by simp only [eqvAll, pyAll, PyData.eqvAll]
theorem eqvAll_cc : eqvAll (d :: xs) (e :: ys) = (eqv d e && eqvAll xs ys) := by simp only [eqvAll, pyAll, PyData.eqvAll, eqv]
end
def eqOk (a b : D) : Prop := (shal 40 a || shal 40 b) = true
instance (a b : D) : Decidable (eqOk a b) := inferInstanceAs (Decidable (_ = _))
def eqD (a b : D) : Out D := guard' (eqOk a b) (.ok (.bl (eqv a b)))
def neD (a b : D) : Out D := guard' (eqOk a b) (.ok (.bl (!eqv a b)))
theorem eqOk_min {a b : D} (h : eqOk a b) : min (py a).depth (py b).depth ≤ 40 := by
  unfold eqOk at h
  rcases Bool.or_eq_true_iff.mp h with h | h
  · have := shal_depth a 40 h; omega
  · have := shal_depth b 40 h; omega

section
variable {X : Cx} {W : WX} {a b c : Expr} {pos : Pos}
def rEqP (K : PySem.W.Frag) : R2 := fun x y H Q => ∃ d e, Is K H d x ∧ Is K H e y ∧ eqOk d e ∧ Q (.bl (eqv d e)) H
def rNeP (K : PySem.W.Frag) : R2 := fun x y H Q => ∃ d e, Is K H d x ∧ Is K H e y ∧ eqOk d e ∧ Q (.bl (!eqv d e)) H
theorem op_eqP (hu : X.A.units + 64 < cLine) : OpR X (compareOp .Eq) (rEqP X.K) := by
  intro pins s σ H x y v u Q I rx ry h
  obtain ⟨d, e, hd, he, ok, q⟩ := h
  obtain ⟨as, r1⟩ := Dp.reads I _ x v (is_dp d hd) rx
  obtain ⟨bs, r2⟩ := Dp.reads I _ y u (is_dp e he) ry
  have hm := eqOk_min ok
  exact SeqAt.eq_plain r1 r2 (py_plain d) (py_plain e) (by omega) ⟨.bl _, H, I, by rw [eqv_py]; rfl, q⟩
theorem op_neP (hu : X.A.units + 64 < cLine) : OpR X (compareOp .NotEq) (rNeP X.K) := by
  intro pins s σ H x y v u Q I rx ry h
  obtain ⟨d, e, hd, he, ok, q⟩ := h
  obtain ⟨as, r1⟩ := Dp.reads I _ x v (is_dp d hd) rx
  obtain ⟨bs, r2⟩ := Dp.reads I _ y u (is_dp e he) ry
  have hm := eqOk_min ok
  exact SeqAt.ne_plain r1 r2 (py_plain d) (py_plain e) (by omega) ⟨.bl _, H, I, by rw [eqv_py]; rfl, q⟩
theorem isB {K H b} : Is K H (.bl b) (.bl b) := by simp only [Is]
theorem isI {K H b} : Is K H (.int b) (.int b) := by simp only [Is]
theorem isS {K H b} : Is K H (.str b) (.str b) := by simp only [Is]
theorem isN {K H} : Is K H .non .non := by simp only [Is]
theorem opb_eq : OpB X (rEqP X.K) eqD := fun W σ a b x y Hs H Q e ha hb p => by
  obtain ⟨ok, p⟩ := guard_ok p
  exact ⟨a, b, ha, hb, ok, p.now e isB⟩
theorem opb_ne : OpB X (rNeP X.K) neD := fun W σ a b x y Hs H Q e ha hb p => by
  obtain ⟨ok, p⟩ := guard_ok p
  exact ⟨a, b, ha, hb, ok, p.now e isB⟩
theorem he_eq (hu : X.A.units + 64 < cLine) {f g : Env → Out D} (ha : HB X W a f) (hb : HB X W b g) : HD X W (.Compare a [.Eq] [b] pos) (d2 eqD f g) := hd_cmpB (op_eqP hu) opb_eq ha hb (nomark _)
theorem he_ne (hu : X.A.units + 64 < cLine) {f g : Env → Out D} (ha : HB X W a f) (hb : HB X W b g) : HD X W (.Compare a [.NotEq] [b] pos) (d2 neD f g) := hd_cmpB (op_neP hu) opb_ne ha hb (nomark _)

/-- ints: one rule for the many -/
theorem opd_I0 {g : Int → Int → V} {h : Int → Int → D} {op : D → D → Out D} (hop : ∀ a b, (∃ i j, a = .int i ∧ b = .int j ∧ op a b = .ok (h i j)) ∨ op a b = .stuck) (hi : ∀ K H i j, Is K H (h i j) (g i j)) : OpB X (rI0 g) op := fun W σ a b x y Hs H Q e ha hb p => by
  rcases hop a b with ⟨i, j, rfl, rfl, q⟩ | q
  · rw [q] at p
    simp only [Is] at ha hb
    exact ⟨i, j, ha, hb, p.now e (hi _ _ i j)⟩
  · rw [q] at p; exact p.elim
theorem opd_I {C : Int → Int → Prop} {C' : Int → Int → Prop} [∀ i j, Decidable (C' i j)] {g : Int → Int → V} {h : Int → Int → D} {op : D → D → Out D} (hop : ∀ a b, (∃ i j, a = .int i ∧ b = .int j ∧ op a b = guard' (C' i j) (.ok (h i j))) ∨ op a b = .stuck)
    (hC : ∀ i j, C' i j → C i j) (hi : ∀ K H i j, Is K H (h i j) (g i j)) : OpB X (rI C g) op := fun W σ a b x y Hs H Q e ha hb p => by
  rcases hop a b with ⟨i, j, rfl, rfl, q⟩ | q
  · rw [q] at p
    obtain ⟨ok, p⟩ := guard_ok p
    simp only [Is] at ha hb
    exact ⟨i, j, ha, hb, hC i j ok, p.now e (hi _ _ i j)⟩
  · rw [q] at p; exact p.elim
theorem hd_sub {f g : Env → Out D} (ha : HD X W a f) (hb : HD X W b g) : HD X W (.BinOp a .Sub b pos) (d2 subD f g) := hd_bin op_sub (opd_I0 (h := fun i j => .int (i - j)) (fun a b => by cases a <;> cases b <;> first | exact .inl ⟨_, _, rfl, rfl, rfl⟩ | exact .inr rfl) fun _ _ _ _ => isI).d ha hb
theorem hd_mul {f g : Env → Out D} (ha : HD X W a f) (hb : HD X W b g) : HD X W (.BinOp a .Mult b pos) (d2 mulD f g) := hd_bin (op_mul.or op_mulW) (fun W σ a b x y Hs H Q e ha hb p => by
  cases a with
  | int i =>
    cases b with
    | int j =>
      obtain ⟨ok, p⟩ := guard_ok p
      simp only [Is] at ha hb
      rcases ok with h | h | ⟨h1, h2⟩
      · exact .inl ⟨i, j, ha, hb, .inl (by omega), p.now e isI⟩
      · exact .inl ⟨i, j, ha, hb, .inr (by omega), p.now e isI⟩
      · exact .inr ⟨i, j, ha, hb, wide_mul (a := 400) (b := 400) h1 h2 (by decide) (by decide) (by decide), p.now e isI⟩
    | _ => exact p.elim
  | _ => cases b <;> exact p.elim) ha hb
theorem divOk_log {j : Int} (h : divOk j) : CDivW 0 j := wide_div (b := 800) h.1 h.2 (by decide) (by decide)
theorem hd_div {f g : Env → Out D} (ha : HD X W a f) (hb : HD X W b g) : HD X W (.BinOp a .FloorDiv b pos) (d2 divD f g) := hd_bin op_fdivW (opd_I (C' := fun _ j => divOk j) (h := fun i j => .int (i / j)) (fun a b => by cases a <;> cases b <;> first | exact .inl ⟨_, _, rfl, rfl, rfl⟩ | exact .inr rfl)
  (fun i j h => divOk_log h) fun _ _ _ _ => isI).d ha hb
theorem hd_mod {f g : Env → Out D} (ha : HD X W a f) (hb : HD X W b g) : HD X W (.BinOp a .Mod b pos) (d2 modD f g) := hd_bin op_mod (opd_I (C' := fun _ j => 0 < j) (h := fun i j => .int (i % j)) (fun a b => by cases a <;> cases b <;> first | exact .inl ⟨_, _, rfl, rfl, rfl⟩ | exact .inr rfl)
  (fun i j h => h) fun _ _ _ _ => isI).d ha hb
theorem hd_pow {f g : Env → Out D} (ha : HD X W a f) (hb : HD X W b g) : HD X W (.BinOp a .Pow b pos) (d2 powD f g) := hd_bin op_pow (opd_I (C' := powOk) (h := fun i j => .int (i ^ j.toNat)) (fun a b => by cases a <;> cases b <;> first | exact .inl ⟨_, _, rfl, rfl, rfl⟩ | exact .inr rfl)
  (fun i j h => ⟨h.1, by have := h.2.1; omega, by have := h.2.2; omega⟩) fun _ _ _ _ => isI).d ha hb
theorem opb_lt : OpB X (rI0 fun i j => .bl (decide (i < j))) ltD := opd_I0 (h := fun i j => .bl (decide (i < j))) (fun a b => by cases a <;> cases b <;> first | exact .inl ⟨_, _, rfl, rfl, rfl⟩ | exact .inr rfl) fun _ _ _ _ => isB
theorem opb_le : OpB X (rI0 fun i j => .bl (decide (i ≤ j))) leD := opd_I0 (h := fun i j => .bl (decide (i ≤ j))) (fun a b => by cases a <;> cases b <;> first | exact .inl ⟨_, _, rfl, rfl, rfl⟩ | exact .inr rfl) fun _ _ _ _ => isB
theorem opb_gt : OpB X (rI0 fun i j => .bl (decide (j < i))) gtD := opd_I0 (h := fun i j => .bl (decide (j < i))) (fun a b => by cases a <;> cases b <;> first | exact .inl ⟨_, _, rfl, rfl, rfl⟩ | exact .inr rfl) fun _ _ _ _ => isB
theorem opb_ge : OpB X (rI0 fun i j => .bl (decide (j ≤ i))) geD := opd_I0 (h := fun i j => .bl (decide (j ≤ i))) (fun a b => by cases a <;> cases b <;> first | exact .inl ⟨_, _, rfl, rfl, rfl⟩ | exact .inr rfl) fun _ _ _ _ => isB
theorem hd_lt {f g : Env → Out D} (ha : HD X W a f) (hb : HD X W b g) : HD X W (.Compare a [.Lt] [b] pos) (d2 ltD f g) := hd_cmp op_lt opb_lt.d ha hb (nomark _)
theorem hd_le {f g : Env → Out D} (ha : HD X W a f) (hb : HD X W b g) : HD X W (.Compare a [.LtE] [b] pos) (d2 leD f g) := hd_cmp op_le opb_le.d ha hb (nomark _)
theorem hd_gt {f g : Env → Out D} (ha : HD X W a f) (hb : HD X W b g) : HD X W (.Compare a [.Gt] [b] pos) (d2 gtD f g) := hd_cmp op_gt opb_gt.d ha hb (nomark _)
theorem hd_ge {f g : Env → Out D} (ha : HD X W a f) (hb : HD X W b g) : HD X W (.Compare a [.GtE] [b] pos) (d2 geD f g) := hd_cmp op_ge opb_ge.d ha hb (nomark _)
end
end G

set_option Elab.async false
set_option linter.all false
set_option maxRecDepth 100000
set_option maxHeartbeats 2000000
namespace G
open PySem L2
open Evl (Ex ex_l ex_t ex_rd)

/-! ### new objects -/
section
variable {K : PySem.W.Frag} {mg : Str → Option Value} {Hs H : Hp} {p : Addr} {o : HO}
theorem none_of_ex (e : Ex Hs H) (h : H p = none) : Hs p = none := Evl.fresh_back e h
/-- a new object that stays -/
theorem grow_new (e : Ex Hs H) (h : H p = none) : Grow Hs H (upd Hs p o) (upd H p o) :=
  ⟨Ex.new h, Ex.new (none_of_ex e h), fun a u q => by
    by_cases hb : a = p
    · subst hb; rw [upd_same] at q ⊢; exact q
    · rw [upd_ne hb] at q ⊢; exact e a u q, fun a h1 h2 => by
    by_cases hb : a = p
    · subst hb; exact absurd h h2
    · rw [upd_ne hb] at h1; exact h1⟩
/-- a new object of one's own -/
theorem grow_own (e : Ex Hs H) (h : H p = none) : Grow Hs H Hs (upd H p o) := Grow.whole e (Ex.new h)
theorem is_tup_new {ds : List D} {vs : List V} (e : Ex Hs H) (h : H p = none) (hv : IsAll K Hs ds vs) : Is K (upd Hs p (.tup vs)) (.tup ds) (.ref p) := by
  simp only [Is]
  exact ⟨p, vs, rfl, SqT.of upd_same, IsAll.mono (Ex.new (none_of_ex e h)) ds hv⟩
theorem is_lst_new {ds : List D} {vs : List V} (e : Ex Hs H) (h : H p = none) (hv : IsAll K Hs ds vs) : Is K (upd Hs p (.lst vs)) (.lst ds) (.ref p) := by
  simp only [Is]
  exact ⟨p, vs, rfl, upd_same, IsAll.mono (Ex.new (none_of_ex e h)) ds hv⟩
theorem rs_new {ds : List D} {vs : List V} (e : Ex Hs H) (h : H p = none) (hv : IsAll K Hs ds vs) : Rs K mg H Hs (upd H p (.lst vs)) (.l ds) (.ref p) :=
  ⟨[p], ⟨p, vs, rfl, rfl, upd_same, hv⟩, fun q hq => by
    have : q = p := by simpa using hq
    subst this; exact ⟨h, none_of_ex e h⟩, by simp⟩
end

section
variable {X : Cx} {W : WX} {e a b c : Expr} {es : List Expr} {pos : Pos}
/-! ### + -/
def rAddP (K : PySem.W.Frag) : R2 := fun x y H Q => (rI0 (fun i j => .int (i + j)) x y H Q ∨ (∃ i j, x = .str i ∧ y = .str j ∧ i.length + j.length ≤ sizeLine ∧ Q (.str (i ++ j)) H)) ∨ rCatA K x y H Q
theorem op_addP : OpR X (binaryOp .Add) (rAddP X.K) := (op_add.or op_add_str).or op_catA
theorem opd_add : OpD X (rAddP X.K) addD := fun W σ a b x y Hs H Q e ha hb p => by
  cases a with
  | int i =>
    cases b with
    | int j => simp only [Is] at ha hb; exact .inl (.inl ⟨i, j, ha, hb, p.now e isI⟩)
    | _ => exact p.elim
  | str i =>
    cases b with
    | str j =>
      obtain ⟨ok, p⟩ := guard_ok p
      simp only [Is] at ha hb; exact .inl (.inr ⟨i, j, ha, hb, cap_le ok, p.now e isS⟩)
    | _ => exact p.elim
  | tup xs =>
    cases b with
    | tup ys =>
      obtain ⟨ok, p⟩ := guard_ok p
      simp only [Is] at ha hb
      obtain ⟨t, vs, rfl, ht, hv⟩ := ha
      obtain ⟨u, us, rfl, hu, hw⟩ := hb
      have l1 := hv.len
      have l2 := hw.len
      refine .inr ⟨t, u, vs, us, rfl, rfl, ex_t e ht, ex_t e hu, cap_le (by omega), fun z => ?_, fun _ z => ?_, fun _ _ q hq => ?_⟩
      · subst z
        have : xs = [] := by cases xs with | nil => rfl | cons _ _ => simp at l1
        subst this
        exact p.now e (by show Is _ _ _ _; simp only [Is]; exact ⟨u, us, rfl, hu, hw⟩)
      · subst z
        have : ys = [] := by cases ys with | nil => rfl | cons _ _ => simp at l2
        subst this
        exact p.now e (by show Is _ _ _ _; simp only [Is, List.append_nil]; exact ⟨t, vs, rfl, ht, hv⟩)
      · exact p.later (grow_new e hq) (is_tup_new e hq (hv.app hw))
    | _ => exact p.elim
  | _ => cases b <;> exact p.elim
theorem hd_add {f g : Env → Out D} (ha : HD X W a f) (hb : HD X W b g) : HD X W (.BinOp a .Add b pos) (d2 addD f g) := hd_bin op_addP opd_add ha hb
/-- unary minus -/
def negD : D → Out D
  | .int i => .ok (.int (-i))
  | _ => .stuck
theorem hd_neg {f : Env → Out D} (ha : HD X W a f) : HD X W (.UnaryOp .USub a pos) (d1 negD f) := ⟨PE.imp (pe_un un_neg ha.pe) fun σ H Q ⟨F, Gs, Hs, ρ, r, p⟩ => ⟨F, Gs, Hs, ρ, r, (Post.seq anti_D p).imp fun v H1 ⟨Hs1, d, g1, h1, p1⟩ => by
  cases d with
  | int i => have h1 : Is _ _ _ _ := h1; simp only [Is] at h1; exact ⟨i, h1, p1.now g1.sh isI⟩
  | _ => exact p1.elim⟩⟩

/-! ### truth and tests -/
def toB : D → Out Bool
  | .bl b => .ok b
  | _ => .stuck
theorem toB_read {σ : St} {H Hs : Hp} {d : D} {v : V} {Q : Bool → Hp → Prop} {K : PySem.W.Frag} {mg : Str → Option Value} (h : Is K H d v) (e : Ex Hs H) (p : Post RT mg W σ Hs H (toB d) Q) : ∃ k, v = .bl k ∧ Q k H := by
  cases d with
  | bl b => simp only [Is] at h; exact ⟨b, h, p.now e rfl⟩
  | _ => exact p.elim
/-- a test whose value is a bool by itself: from the value's reading to the test's -/
theorem test_read {f : Env → Out D} {σ : St} {H : Hp} {Q : Bool → Hp → Prop} {K : PySem.W.Frag} {mg : Str → Option Value} (h : tG RT K mg W (d1 toB f) σ H Q) : tG (RD K) K mg W f σ H fun x H' => ∃ k, x = .bl k ∧ Q k H' := by
  obtain ⟨F, Gs, Hs, ρ, r, p⟩ := h
  exact ⟨F, Gs, Hs, ρ, r, (Post.seq anti_T p).imp fun v H1 ⟨Hs1, d, g1, h1, p1⟩ => toB_read (Is.mono g1.sh d h1) g1.sh p1⟩
theorem ht_cmp {o : CmpOp} {r : R2} {op : D → D → Out D} {f g : Env → Out D} (ho : OpR X (compareOp o) r) (hr : OpD X r op) (ha : HD X W a f) (hb : HD X W b g) (hm : behindInMarks o b = false) : HT X W (.Compare a [o] [b] pos) (d1 toB (d2 op f g)) :=
  ⟨PT.imp (pt_cmpR ho ha.pe hb.pe hm) fun σ H Q h => bin_read anti_D (test_read h) fun a b x y Hs H' e i1 i2 p => hr W σ a b x y Hs H' _ e i1 i2 p⟩
theorem ht_cmpB {o : CmpOp} {r : R2} {op : D → D → Out D} {f g : Env → Out D} (ho : OpR X (compareOp o) r) (hr : OpB X r op) (ha : HB X W a f) (hb : HB X W b g) (hm : behindInMarks o b = false) : HT X W (.Compare a [o] [b] pos) (d1 toB (d2 op f g)) :=
  ⟨PT.imp (pt_cmpR ho ha.pe hb.pe hm) fun σ H Q h => bin_readB anti_D (test_read h) fun a b x y Hs H' e i1 i2 p => hr W σ a b x y Hs H' _ e i1 i2 p⟩
theorem ht_lt {f g : Env → Out D} (ha : HD X W a f) (hb : HD X W b g) : HT X W (.Compare a [.Lt] [b] pos) (d1 toB (d2 ltD f g)) := ht_cmp op_lt opb_lt.d ha hb (nomark _)
theorem ht_le {f g : Env → Out D} (ha : HD X W a f) (hb : HD X W b g) : HT X W (.Compare a [.LtE] [b] pos) (d1 toB (d2 leD f g)) := ht_cmp op_le opb_le.d ha hb (nomark _)
theorem ht_gt {f g : Env → Out D} (ha : HD X W a f) (hb : HD X W b g) : HT X W (.Compare a [.Gt] [b] pos) (d1 toB (d2 gtD f g)) := ht_cmp op_gt opb_gt.d ha hb (nomark _)
theorem ht_ge {f g : Env → Out D} (ha : HD X W a f) (hb : HD X W b g) : HT X W (.Compare a [.GtE] [b] pos) (d1 toB (d2 geD f g)) := ht_cmp op_ge opb_ge.d ha hb (nomark _)
theorem ht_eq (hu : X.A.units + 64 < cLine) {f g : Env → Out D} (ha : HB X W a f) (hb : HB X W b g) : HT X W (.Compare a [.Eq] [b] pos) (d1 toB (d2 eqD f g)) := ht_cmpB (op_eqP hu) opb_eq ha hb (nomark _)
theorem ht_ne (hu : X.A.units + 64 < cLine) {f g : Env → Out D} (ha : HB X W a f) (hb : HB X W b g) : HT X W (.Compare a [.NotEq] [b] pos) (d1 toB (d2 neD f g)) := ht_cmpB (op_neP hu) opb_ne ha hb (nomark _)
/-- a op b op' c -/
def dChain (op op' : D → D → Out D) (f g h : Env → Out D) : Env → Out D := fun ρ => (f ρ).bind fun x => (g ρ).bind fun y => (op x y).bind fun z => (toB z).bind fun k => if k = true then (h ρ).bind fun w => op' y w else .ok (.bl false)
theorem chain_read {r r' : R2} {op op' : D → D → Out D} {f g h : Env → Out D} {σ : St} {H : Hp} {Q : VK} (hr : OpD X r op) (hr' : OpD X r' op') (q : tG (RD X.K) X.K X.mg W (dChain op op' f g h) σ H Q) :
    tChain r r' (tG (RD X.K) X.K X.mg W f) (tG (RD X.K) X.K X.mg W g) (tG (RD X.K) X.K X.mg W h) σ H Q := by
  obtain ⟨F, Gs, Hs, ρ, rep, p⟩ := q
  refine ⟨F, Gs, Hs, ρ, rep, (Post.seq anti_D p).imp fun v H1 ⟨Hs1, d1, g1, h1, p1⟩ => ?_⟩
  refine ⟨F, Gs, Hs1, ρ, rep.grow g1, (Post.seq anti_D p1).imp fun u H2 ⟨Hs2, d2, g2, h2, p2⟩ => ?_⟩
  refine hr W σ d1 d2 v u Hs2 H2 _ g2.sh (Is.mono g2.s _ h1) h2 ((Post.seq anti_D p2).imp fun z H3 ⟨Hs3, d3, g3, h3, p3⟩ => ?_)
  cases d3 with
  | bl k =>
    have h3 : Is _ _ _ _ := h3
    simp only [Is] at h3
    refine ⟨k, h3, ?_⟩
    cases k with
    | false => rw [if_neg Bool.false_ne_true]; exact p3.now g3.sh isB
    | true =>
      rw [if_pos rfl]
      refine ⟨F, Gs, Hs3, ρ, ((rep.grow g1).grow g2).grow g3, (Post.seq anti_D (k := fun w => op' d2 w) p3).imp fun w H4 ⟨Hs4, d4, g4, h4, p4⟩ => ?_⟩
      exact hr' W σ d2 d4 u w Hs4 H4 Q g4.sh (Is.mono g4.s _ (Is.mono g3.s _ h2)) h4 p4
  | _ => exact p3.elim
theorem hd_chain {o o' : CmpOp} {r r' : R2} {op op' : D → D → Out D} {f g h : Env → Out D} (ho : OpR X (compareOp o) r) (hr : OpD X r op) (ho' : OpR X (compareOp o') r') (hr' : OpD X r' op') (ha : HD X W a f) (hb : HD X W b g) (hc : HD X W c h)
    (hm : lastMarks [o, o'] [b, c] = false := by with_unfolding_all rfl) : HD X W (.Compare a [o, o'] [b, c] pos) (dChain op op' f g h) :=
  ⟨PE.imp (pe_chain ho ho' ha.pe hb.pe hc.pe hm) fun σ H Q q => chain_read hr hr' q⟩
theorem ht_chain {o o' : CmpOp} {r r' : R2} {op op' : D → D → Out D} {f g h : Env → Out D} (ho : OpR X (compareOp o) r) (hr : OpD X r op) (ho' : OpR X (compareOp o') r') (hr' : OpD X r' op') (ha : HD X W a f) (hb : HD X W b g) (hc : HD X W c h)
    (hm : lastMarks [o, o'] [b, c] = false := by with_unfolding_all rfl) : HT X W (.Compare a [o, o'] [b, c] pos) (d1 toB (dChain op op' f g h)) :=
  ⟨PT.imp (pt_chain ho ho' ha.pe hb.pe hc.pe hm) fun σ H Q q => chain_read hr hr' (test_read q)⟩
/-- truth -/
def truD : D → Out Bool
  | .non => .ok false
  | .bl b => .ok b
  | .int i => .ok (i != 0)
  | .str x => guard' (x.length ≤ cap) (.ok ((x.length : Int) != 0))
  | .lst xs => .ok (!xs.isEmpty)
  | .tup xs => .ok (!xs.isEmpty)
  | .scr xs => .ok (!xs.isEmpty)
theorem isEmpty_len {ds : List D} {vs : List V} (h : vs.length = ds.length) : vs.isEmpty = ds.isEmpty := by
  cases ds <;> cases vs <;> simp at h ⊢
theorem tru_read {σ : St} {H Hs : Hp} {d : D} {v : V} {Q : Bool → Hp → Prop} {K : PySem.W.Frag} {mg : Str → Option Value} (h : Is K H d v) (e : Ex Hs H) (p : Post RT mg W σ Hs H (truD d) Q) : ∃ k, TruV K v H k ∧ Q k H := by
  cases d with
  | non => simp only [Is] at h; subst h; exact ⟨false, rfl, p.now e rfl⟩
  | bl b => simp only [Is] at h; subst h; exact ⟨b, rfl, p.now e rfl⟩
  | int b => simp only [Is] at h; subst h; exact ⟨_, rfl, p.now e rfl⟩
  | str b =>
    obtain ⟨ok, p⟩ := guard_ok p
    simp only [Is] at h; subst h; exact ⟨_, ⟨cap_le ok, rfl⟩, p.now e rfl⟩
  | lst xs =>
    simp only [Is] at h
    obtain ⟨a, vs, rfl, hs, ha⟩ := h
    exact ⟨_, .inl ⟨vs, SqL.of hs, rfl⟩, by rw [isEmpty_len ha.len]; exact p.now e rfl⟩
  | scr xs =>
    simp only [Is] at h
    obtain ⟨a, rfl, hs⟩ := h
    exact ⟨_, .inl ⟨_, hs, rfl⟩, by rw [show (xs.map V.int).isEmpty = xs.isEmpty by cases xs <;> rfl]; exact p.now e rfl⟩
  | tup xs =>
    simp only [Is] at h
    obtain ⟨a, vs, rfl, hs, ha⟩ := h
    exact ⟨_, .inr (.inl ⟨vs, hs, rfl⟩), by rw [isEmpty_len ha.len]; exact p.now e rfl⟩
theorem ht_tru {f : Env → Out D} (ha : HB X W a f) (he : ∀ whole, isTrue a X.env whole = (do let v ← whole; standAt a.pos; holding [v] (truthy v)) := by intro _; rfl) : HT X W a (d1 truD f) :=
  ⟨PT.imp (pt_truth ha.pe he) fun σ H Q ⟨F, Gs, Hs, ρ, r, p⟩ => ⟨F, Gs, Hs, ρ, r, (Post.seq anti_T p).imp fun v H1 ⟨Hs1, d, g1, h1, p1⟩ => tru_read h1 g1.sh p1⟩⟩
/-- and, or, not -/
def dAnd (f g : Env → Out Bool) : Env → Out Bool := fun ρ => (f ρ).bind fun b => if b = true then g ρ else .ok false
def dOr (f g : Env → Out Bool) : Env → Out Bool := fun ρ => (f ρ).bind fun b => if b = true then .ok true else g ρ
def dNot (f : Env → Out Bool) : Env → Out Bool := fun ρ => (f ρ).bind fun b => .ok (!b)
variable {rest : List Expr}
theorem hw_and1 {f : Env → Out Bool} (h : HT X W a f) : HW X W (.BoolOp .And [a] pos) f := ⟨pw_and1 h.pt⟩
theorem hw_or1 {f : Env → Out Bool} (h : HT X W a f) : HW X W (.BoolOp .Or [a] pos) f := ⟨pw_or1 h.pt⟩
theorem hw_and {f g : Env → Out Bool} (h : HT X W a f) (k : HW X W (.BoolOp .And (b :: rest) pos) g) : HW X W (.BoolOp .And (a :: b :: rest) pos) (dAnd f g) :=
  ⟨PW.imp (pw_and h.pt k.pw) fun σ H Q ⟨F, Gs, Hs, ρ, r, p⟩ => ⟨F, Gs, Hs, ρ, r, (Post.seq anti_T p).imp fun v H1 ⟨Hs1, d, g1, h1, p1⟩ => by
    obtain rfl : v = d := h1
    cases v with
    | true => rw [if_pos rfl]; exact ⟨F, Gs, Hs1, ρ, r.grow g1, p1⟩
    | false => rw [if_neg Bool.false_ne_true]; exact p1.now g1.sh rfl⟩⟩
theorem hw_or {f g : Env → Out Bool} (h : HT X W a f) (k : HW X W (.BoolOp .Or (b :: rest) pos) g) : HW X W (.BoolOp .Or (a :: b :: rest) pos) (dOr f g) :=
  ⟨PW.imp (pw_or h.pt k.pw) fun σ H Q ⟨F, Gs, Hs, ρ, r, p⟩ => ⟨F, Gs, Hs, ρ, r, (Post.seq anti_T p).imp fun v H1 ⟨Hs1, d, g1, h1, p1⟩ => by
    obtain rfl : v = d := h1
    cases v with
    | true => rw [if_pos rfl]; exact p1.now g1.sh rfl
    | false => rw [if_neg Bool.false_ne_true]; exact ⟨F, Gs, Hs1, ρ, r.grow g1, p1⟩⟩⟩
theorem ht_not {f : Env → Out Bool} (h : HT X W a f) : HT X W (.UnaryOp .Not a pos) (dNot f) :=
  ⟨PT.imp (pt_not h.pt) fun σ H Q ⟨F, Gs, Hs, ρ, r, p⟩ => ⟨F, Gs, Hs, ρ, r, (Post.seq anti_T p).imp fun v H1 ⟨Hs1, d, g1, h1, p1⟩ => by
    obtain rfl : v = d := h1
    exact p1.now g1.sh rfl⟩⟩
/-- .. as values -/
def dAndV (f g : Env → Out D) : Env → Out D := fun ρ => (f ρ).bind fun x => (truD x).bind fun k => if k = true then g ρ else .ok x
def dOrV (f g : Env → Out D) : Env → Out D := fun ρ => (f ρ).bind fun x => (truD x).bind fun k => if k = true then .ok x else g ρ
theorem hd_one {op} {f : Env → Out D} (h : HD X W a f) : HD X W (.BoolOp op [a] pos) f := ⟨pe_one h.pe⟩
theorem tru_v {H : Hp} {d : D} {v : V} {k : Bool} {K : PySem.W.Frag} (h : Is K H d v) (z : truD d = .ok k) : TruV K v H k := by
  cases d with
  | non => simp only [Is] at h; subst h; simpa [truD, TruV] using z.symm
  | bl b => simp only [Is] at h; subst h; simpa [truD, TruV] using z.symm
  | int b => simp only [Is] at h; subst h; simpa [truD, TruV] using z.symm
  | str b =>
    simp only [truD, guard'] at z
    split at z
    · rename_i ok
      simp only [Is] at h; subst h; exact ⟨cap_le ok, by simpa using z.symm⟩
    · cases z
  | lst xs =>
    simp only [Is] at h
    obtain ⟨a, vs, rfl, hs, ha⟩ := h
    exact .inl ⟨vs, SqL.of hs, by rw [isEmpty_len ha.len]; simpa [truD] using z.symm⟩
  | scr xs =>
    simp only [Is] at h
    obtain ⟨a, rfl, hs⟩ := h
    exact .inl ⟨_, hs, by rw [show (xs.map V.int).isEmpty = xs.isEmpty by cases xs <;> rfl]; simpa [truD] using z.symm⟩
  | tup xs =>
    simp only [Is] at h
    obtain ⟨a, vs, rfl, hs, ha⟩ := h
    exact .inr (.inl ⟨vs, hs, by rw [isEmpty_len ha.len]; simpa [truD] using z.symm⟩)
theorem tru_exc {d : D} {c : Str} {p : Option Int} (z : truD d = .exc c p) : False := by
  cases d with
  | str b => simp only [truD, guard'] at z; split at z <;> cases z
  | _ => simp [truD] at z
theorem hd_and {f g : Env → Out D} (h : HD X W a f) (k : HD X W (.BoolOp .And (b :: rest) pos) g) : HD X W (.BoolOp .And (a :: b :: rest) pos) (dAndV f g) :=
  ⟨PE.imp (pe_andT h.pe k.pe) fun σ H Q ⟨F, Gs, Hs, ρ, r, p⟩ => ⟨F, Gs, Hs, ρ, r, (Post.seq anti_D p).imp fun v H1 ⟨Hs1, d, g1, h1, p1⟩ => by
    cases z : truD d with
    | ok k =>
      rw [z] at p1
      refine ⟨k, tru_v (Is.mono g1.sh d h1) z, ?_⟩
      cases k with
      | true => rw [if_pos rfl]; exact ⟨F, Gs, Hs1, ρ, r.grow g1, p1⟩
      | false => rw [if_neg Bool.false_ne_true]; exact Post.now (R := RD X.K) p1 g1.sh h1
    | exc c p' => exact (tru_exc z).elim
    | stuck => rw [z] at p1; exact p1.elim⟩⟩
theorem hd_or {f g : Env → Out D} (h : HD X W a f) (k : HD X W (.BoolOp .Or (b :: rest) pos) g) : HD X W (.BoolOp .Or (a :: b :: rest) pos) (dOrV f g) :=
  ⟨PE.imp (pe_orT h.pe k.pe) fun σ H Q ⟨F, Gs, Hs, ρ, r, p⟩ => ⟨F, Gs, Hs, ρ, r, (Post.seq anti_D p).imp fun v H1 ⟨Hs1, d, g1, h1, p1⟩ => by
    cases z : truD d with
    | ok k =>
      rw [z] at p1
      refine ⟨k, tru_v (Is.mono g1.sh d h1) z, ?_⟩
      cases k with
      | false => rw [if_neg Bool.false_ne_true]; exact ⟨F, Gs, Hs1, ρ, r.grow g1, p1⟩
      | true => rw [if_pos rfl]; exact Post.now (R := RD X.K) p1 g1.sh h1
    | exc c p' => exact (tru_exc z).elim
    | stuck => rw [z] at p1; exact p1.elim⟩⟩
def notD (d : D) : Out D := (truD d).bind fun k => .ok (.bl (!k))
theorem hd_not {f : Env → Out D} (h : HB X W a f) : HD X W (.UnaryOp .Not a pos) (d1 notD f) :=
  ⟨PE.imp (pe_notT h.pe) fun σ H Q ⟨F, Gs, Hs, ρ, r, p⟩ => ⟨F, Gs, Hs, ρ, r, (Post.seq anti_D p).imp fun v H1 ⟨Hs1, d, g1, h1, p1⟩ => by
    unfold notD at p1
    cases z : truD d with
    | ok k => rw [z] at p1; exact ⟨k, tru_v h1 z, Post.now (R := RD X.K) p1 g1.sh isB⟩
    | exc c p' => exact (tru_exc z).elim
    | stuck => rw [z] at p1; exact p1.elim⟩⟩
/-- a if t else b -/
def dIf {α : Type} (t : Env → Out Bool) (f g : Env → Out α) : Env → Out α := fun ρ => (t ρ).bind fun k => if k = true then f ρ else g ρ
theorem hd_if {t : Env → Out Bool} {f g : Env → Out D} (hc : HT X W c t) (ha : HD X W a f) (hb : HD X W b g) : HD X W (.IfExp c a b pos) (dIf t f g) :=
  ⟨PE.imp (pe_ifExp hc.pt ha.pe hb.pe) fun σ H Q ⟨F, Gs, Hs, ρ, r, p⟩ => ⟨F, Gs, Hs, ρ, r, (Post.seq anti_D p).imp fun v H1 ⟨Hs1, d, g1, h1, p1⟩ => by
    obtain rfl : v = d := h1
    cases v with
    | true => rw [if_pos rfl]; exact ⟨F, Gs, Hs1, ρ, r.grow g1, p1⟩
    | false => rw [if_neg Bool.false_ne_true]; exact ⟨F, Gs, Hs1, ρ, r.grow g1, p1⟩⟩⟩
theorem he_if {t : Env → Out Bool} {f g : Env → Out S} (hc : HT X W c t) (ha : HE X W a f) (hb : HE X W b g) : HE X W (.IfExp c a b pos) (dIf t f g) :=
  ⟨PE.imp (pe_ifExp hc.pt ha.pe hb.pe) fun σ H Q ⟨F, Gs, Hs, ρ, r, p⟩ => ⟨F, Gs, Hs, ρ, r, (Post.seq anti_E p).imp fun v H1 ⟨Hs1, d, g1, h1, p1⟩ => by
    obtain rfl : v = d := h1
    cases v with
    | true => rw [if_pos rfl]; exact ⟨F, Gs, Hs1, ρ, r.grow g1, p1⟩
    | false => rw [if_neg Bool.false_ne_true]; exact ⟨F, Gs, Hs1, ρ, r.grow g1, p1⟩⟩⟩

/-! ### argument lists, displays -/
def aNil : Env → Out (List D) := fun _ => .ok []
def aCons (f : Env → Out D) (g : Env → Out (List D)) : Env → Out (List D) := fun ρ => (f ρ).bind fun d => (g ρ).bind fun ds => .ok (d :: ds)
theorem ha_nil : HA X W [] aNil := ⟨PA.imp pa_nil fun σ H Q ⟨F, Gs, Hs, ρ, r, p⟩ => p.now r.sh isAll_nil⟩
theorem ha_cons {f : Env → Out D} {g : Env → Out (List D)} (ha : HD X W e f) (hr : HA X W es g) (hs : starEach (e :: es) X.env = (false, eval e X.env) :: starEach es X.env := by rfl) : HA X W (e :: es) (aCons f g) :=
  ⟨PA.imp (pa_cons ha.pe hr.pa hs) fun σ H Q ⟨F, Gs, Hs, ρ, r, p⟩ => ⟨F, Gs, Hs, ρ, r, (Post.seq anti_A p).imp fun v H1 ⟨Hs1, d, g1, h1, p1⟩ =>
    ⟨F, Gs, Hs1, ρ, r.grow g1, (Post.seq anti_A p1).imp fun vs H2 ⟨Hs2, ds, g2, h2, p2⟩ => p2.now g2.sh (isAll_cons (Is.mono g2.s d h1) h2)⟩⟩⟩
def tupD (f : Env → Out (List D)) : Env → Out D := fun ρ => (f ρ).bind fun ds => guard' (ds.length ≤ cap) (.ok (.tup ds))
def lstD (f : Env → Out (List D)) : Env → Out S := fun ρ => (f ρ).bind fun ds => guard' (ds.length ≤ cap) (.ok (.l ds))
theorem hd_tup {x1} {f : Env → Out (List D)} (h : HA X W es f) : HD X W (.Tuple es x1 pos) (tupD f) :=
  ⟨PE.imp (pe_tup h.pa) fun σ H Q ⟨F, Gs, Hs, ρ, r, p⟩ => ⟨F, Gs, Hs, ρ, r, (Post.seq anti_D p).imp fun vs H1 ⟨Hs1, ds, g1, h1, p1⟩ => by
    obtain ⟨ok, p1⟩ := guard_ok p1
    have h1 : IsAll _ _ _ _ := h1
    exact ⟨by rw [h1.len]; exact cap_le ok, fun q hq => p1.later (grow_new g1.sh hq) (is_tup_new g1.sh hq h1)⟩⟩⟩
theorem he_lst {f : Env → Out (List D)} (h : HA X W es f) : HE X W (.List es pos) (lstD f) :=
  ⟨PE.imp (pe_lst h.pa) fun σ H Q ⟨F, Gs, Hs, ρ, r, p⟩ => ⟨F, Gs, Hs, ρ, r, (Post.seq anti_E p).imp fun vs H1 ⟨Hs1, ds, g1, h1, p1⟩ => by
    obtain ⟨ok, p1⟩ := guard_ok p1
    have h1 : IsAll _ _ _ _ := h1
    exact ⟨by rw [h1.len]; exact cap_le ok, fun q hq => p1.later (grow_own g1.sh hq) (rs_new g1.sh hq h1)⟩⟩⟩
end
end G

set_option Elab.async false
set_option linter.all false
set_option maxRecDepth 100000
set_option maxHeartbeats 2000000
namespace G
open PySem L2
open Evl (Ex ex_l ex_t ex_rd)
section
variable {K : PySem.W.Frag} {H : Hp}
theorem IsAll.at {ds : List D} {vs : List V} (h : IsAll K H ds vs) {i : Int} {d : D} (e : atI ds i = some d) : ∃ v, atI vs i = some v ∧ Is K H d v := by
  unfold atI at e ⊢
  rw [h.len]
  cases q : ixN ds.length i with
  | none => rw [q] at e; cases e
  | some j => rw [q] at e; exact h.get j e
/-- the part of a list -/
def cutD {α : Type} (xs : List α) (lo hi : Option Int) : List α := (xs.drop (HT.sIx xs.length 0 lo)).take (HT.sIx xs.length xs.length hi - HT.sIx xs.length 0 lo)
theorem IsAll.cut {ds : List D} {vs : List V} (h : IsAll K H ds vs) (lo hi : Option Int) : IsAll K H (cutD ds lo hi) (cutV vs lo hi) := by
  unfold cutD cutV
  rw [h.len]
  exact (h.drop _).take _
theorem cutD_length {α : Type} (xs : List α) (lo hi : Option Int) : (cutD xs lo hi).length ≤ xs.length := by
  unfold cutD
  rw [List.length_take, List.length_drop]
  omega
end
section
variable {X : Cx} {W : WX} {e a b c : Expr} {es : List Expr} {pos : Pos}
/-! ### o[i] -/
def oOf {α : Type} : Option α → Out α
  | some a => .ok a
  | none => .stuck
def idxD : D → D → Out D
  | .lst xs, .int i => oOf (atI xs i)
  | .tup xs, .int i => oOf (atI xs i)
  | .scr ns, .int i => oOf ((atI ns i).map .int)
  | .str x, .int i => guard' (x.length ≤ cap) (oOf ((atI x.cps.toList i).map fun c => .str ⟨#[c]⟩))
  | _, _ => .stuck
theorem oOf_ok {α w : Type} {R : Rel α w} {mg : Str → Option Value} {σ : St} {Hs H : Hp} {o : Option α} {Q : w → Hp → Prop} (h : Post R mg W σ Hs H (oOf o) Q) : ∃ a, o = some a ∧ Post R mg W σ Hs H (.ok a) Q := by
  cases o with
  | none => exact h.elim
  | some a => exact ⟨a, rfl, h⟩
theorem idx_read {K : PySem.W.Frag} {R : Rel D V} {mg : Str → Option Value} {σ : St} {Hs H Hx : Hp} {a i : D} {x y : V} {Q : VK} (e : Ex Hs H) (ex : Ex Hx H) (ha : Is K Hx a x) (hb : Is K H i y) (hR : ∀ d v, Is K Hx d v → R H Hs H d v) (p : Post R mg W σ Hs H (idxD a i) Q) : rIx K x y H Q := by
  cases i with
  | int i =>
    simp only [Is] at hb
    cases a with
    | lst xs =>
      simp only [Is] at ha
      obtain ⟨t, vs, rfl, ht, hv⟩ := ha
      obtain ⟨d, e1, p⟩ := oOf_ok p
      obtain ⟨v, e2, hd⟩ := hv.at e1
      exact .inl ⟨t, vs, i, v, rfl, hb, SqL.of (ex _ _ ht), e2, p.now e (hR d v hd)⟩
    | scr ns =>
      simp only [Is] at ha
      obtain ⟨t, rfl, ht⟩ := ha
      obtain ⟨d, e1, p⟩ := oOf_ok p
      cases q : atI ns i with
      | none => rw [q] at e1; cases e1
      | some n =>
        rw [q] at e1
        have e2 : D.int n = d := by simpa using e1
        subst e2
        refine .inl ⟨t, ns.map V.int, i, .int n, rfl, hb, ex_l ex ht, ?_, p.now e (hR _ _ isI)⟩
        unfold atI at q ⊢
        rw [List.length_map]
        cases z : ixN ns.length i with
        | none => rw [z] at q; cases q
        | some j =>
          rw [z] at q
          have q' : ns[j]? = some n := q
          show (ns.map V.int)[j]? = some (.int n)
          rw [List.getElem?_map, q']; rfl
    | tup xs =>
      simp only [Is] at ha
      obtain ⟨t, vs, rfl, ht, hv⟩ := ha
      obtain ⟨d, e1, p⟩ := oOf_ok p
      obtain ⟨v, e2, hd⟩ := hv.at e1
      exact .inr (.inl ⟨t, vs, i, v, rfl, hb, ex_t ex ht, e2, p.now e (hR d v hd)⟩)
    | str z =>
      simp only [Is] at ha
      obtain ⟨ok, p⟩ := guard_ok p
      obtain ⟨d, e1, p⟩ := oOf_ok p
      cases q : atI z.cps.toList i with
      | none => rw [q] at e1; cases e1
      | some c =>
        rw [q] at e1
        have e2 : D.str ⟨#[c]⟩ = d := by simpa using e1
        subst e2
        exact .inr (.inr ⟨z, i, c, ha, hb, cap_le ok, q, p.now e (hR _ _ isS)⟩)
    | _ => exact p.elim
  | _ => cases a <;> exact p.elim
theorem hd_idx {f g : Env → Out D} (ha : HD X W a f) (hb : HD X W b g) (hs : PlainIx b := by intro _ _; rfl) : HD X W (.Subscript a b pos) (d2 idxD f g) :=
  ⟨PE.imp (pe_ix ix_seq ha.pe hb.pe hs) fun σ H Q h => bin_read anti_D h fun a b x y Hs H' e i1 i2 p => idx_read e e i1 (Is.mono e b i2) (fun _ _ h => h) p⟩
theorem hb_idx {f g : Env → Out D} (ha : HB X W a f) (hb : HB X W b g) (hs : PlainIx b := by intro _ _; rfl) : HB X W (.Subscript a b pos) (d2 idxD f g) :=
  ⟨PE.imp (pe_ix ix_seq ha.pe hb.pe hs) fun σ H Q h => bin_readB anti_B h fun a b x y Hs H' e i1 i2 p => idx_read e (Ex.refl _) i1 i2 (fun _ _ h => h) p⟩
/-- a borrowed scalar is one's own -/
def scD : D → Out D
  | .non => .ok .non
  | .bl b => .ok (.bl b)
  | .int i => .ok (.int i)
  | .str x => .ok (.str x)
  | _ => .stuck
theorem hd_sc {f : Env → Out D} (h : HB X W e f) : HD X W e (d1 scD f) := ⟨PE.imp h.pe fun σ H Q ⟨F, Gs, Hs, ρ, r, p⟩ => ⟨F, Gs, Hs, ρ, r, (Post.seq anti_D p).imp fun v H1 ⟨Hs1, d, g1, h1, p1⟩ => by
  have h1 : Is _ _ _ _ := h1
  cases d with
  | non => simp only [Is] at h1; subst h1; exact p1.now g1.sh isN
  | bl b => simp only [Is] at h1; subst h1; exact p1.now g1.sh isB
  | int b => simp only [Is] at h1; subst h1; exact p1.now g1.sh isI
  | str b => simp only [Is] at h1; subst h1; exact p1.now g1.sh isS
  | _ => exact p1.elim⟩⟩
/-- an item of an own list of shared data -/
def dOix (i : Nat) (g : Env → Out D) : Env → Out D := fun ρ => match ρ[i]? with
  | some (some (.l xs)) => (g ρ).bind fun y => idxD (.lst xs) y
  | some (some (.d d)) => (g ρ).bind fun y => idxD d y
  | _ => .stuck
theorem hd_oix (i : Nat) {x : Str} {p1 : Pos} {g : Env → Out D} (hb : HD X W b g) (hs : PlainIx b := by intro _ _; rfl) (hN : X.N[i]? = some x := by rfl) (hv : Vis X.env.scope x := by first | exact Or.inl rfl | exact Or.inr (Or.inl rfl) | exact Or.inr (Or.inr rfl)) (hd : (x == ("__debug__" : Str)) = false := by decide)
    (hcd : (x == ("__classdict__" : Str)) = false := by decide) : HD X W (.Subscript (.Name x p1) b pos) (dOix i g) := ⟨PE.imp (pe_ix ix_seq (pe_var hN hv hd hcd) hb.pe hs) fun σ H Q ⟨F, Gs, Hs, ρ, r, p⟩ => by
  obtain ⟨fp, sl⟩ := id r.sl
  unfold dOix at p
  split at p
  · rename_i xs e
    obtain ⟨v, e1, q, vs, rfl, e3, h1, h2⟩ := sl.own i _ e
    refine ⟨.ref q, e1, F, Gs, Hs, ρ, r, (Post.seq anti_D p).imp fun y H1 ⟨Hs1, d, g1, hy, p1⟩ => ?_⟩
    have hy : Is _ _ _ _ := hy
    cases d with
    | int j =>
      simp only [Is] at hy
      obtain ⟨d, e4, p1⟩ := oOf_ok p1
      obtain ⟨u, e5, hd⟩ := h2.at e4
      exact .inl ⟨q, vs, j, u, rfl, hy, SqL.of (g1.h _ _ h1), e5, p1.now g1.sh (Is.mono g1.s d hd)⟩
    | _ => exact p1.elim
  · rename_i d e
    obtain ⟨v, e1, _, h1⟩ := sl.own i _ e
    refine ⟨v, e1, F, Gs, Hs, ρ, r, (Post.seq anti_D p).imp fun y H1 ⟨Hs1, d, g1, hy, p1⟩ => ?_⟩
    exact idx_read g1.sh g1.sh (Is.mono g1.s _ h1) (Is.mono g1.sh _ hy) (fun _ _ h => h) p1
  · exact p.elim⟩

/-! ### o[i:j] -/
structure HO' (X : Cx) (W : WX) (e : Option Expr) (f : Env → Out (Option Int)) : Prop where
  po : PO X e (tG RO X.K X.mg W f)
def oNo : Env → Out (Option Int) := fun _ => .ok none
def oSo (f : Env → Out D) : Env → Out (Option Int) := fun ρ => (f ρ).bind fun d => match d with
  | .int i => .ok (some i)
  | _ => .stuck
theorem PO.imp {o : Option Expr} {t t' : TO} (h : PO X o t) (k : ∀ σ H Q, t' σ H Q → t σ H Q) : PO X o t' := ⟨fun pins s σ H Q I q => h.run pins s σ H Q I (k _ _ _ q)⟩
theorem ho_no : HO' X W none oNo := ⟨PO.imp po_none fun σ H Q ⟨F, Gs, Hs, ρ, r, p⟩ => p.now r.sh rfl⟩
theorem ho_so {f : Env → Out D} (h : HD X W e f) : HO' X W (some e) (oSo f) := ⟨PO.imp (po_some h.pe) fun σ H Q ⟨F, Gs, Hs, ρ, r, p⟩ => ⟨F, Gs, Hs, ρ, r, (Post.seq anti_O p).imp fun v H1 ⟨Hs1, d, g1, h1, p1⟩ => by
  have h1 : Is _ _ _ _ := h1
  cases d with
  | int i => simp only [Is] at h1; exact ⟨i, h1, p1.now g1.sh rfl⟩
  | _ => exact p1.elim⟩⟩
def slcS : D → Option Int → Option Int → Out S
  | .lst xs, lo, hi => .ok (.l (cutD xs lo hi))
  | .tup xs, lo, hi => .ok (.d (.tup (cutD xs lo hi)))
  | .str x, lo, hi => guard' (x.length ≤ cap) (.ok (.d (.str ⟨(cutD x.cps.toList lo hi).toArray⟩)))
  | _, _, _ => .stuck
def dSlc (f : Env → Out D) (lo hi : Env → Out (Option Int)) : Env → Out S := fun ρ => (f ρ).bind fun x => (lo ρ).bind fun l => (hi ρ).bind fun u => slcS x l u
def rSlP (K : PySem.W.Frag) : V → Option Int → Option Int → Hp → VK → Prop := fun x lo hi H Q => (rSlL K x lo hi H Q ∨ rSlA K x lo hi H Q) ∨ rSlS x lo hi H Q
theorem sl_P : SlR X (rSlP X.K) := (sl_list.or sl_tupA).or sl_str
theorem cutS_D (z : Str) (lo hi : Option Int) : cutS z lo hi = ⟨(cutD z.cps.toList lo hi).toArray⟩ := by
  unfold cutS cutD
  simp only [Array.length_toList]
  rfl
theorem he_slc {lo hi : Option Expr} {p2 : Pos} {f : Env → Out D} {gl gh : Env → Out (Option Int)} (ha : HD X W a f) (hl : HO' X W lo gl) (hh : HO' X W hi gh) : HE X W (.Subscript a (.Slice lo hi none p2) pos) (dSlc f gl gh) :=
  ⟨PE.imp (pe_slice sl_P ha.pe hl.po hh.po) fun σ H Q ⟨F, Gs, Hs, ρ, r, p⟩ => ⟨F, Gs, Hs, ρ, r, (Post.seq anti_E p).imp fun v H1 ⟨Hs1, d, g1, h1, p1⟩ =>
    ⟨F, Gs, Hs1, ρ, r.grow g1, (Post.seq anti_E p1).imp fun l H2 ⟨Hs2, l', g2, e2, p2⟩ => ⟨F, Gs, Hs2, ρ, (r.grow g1).grow g2, (Post.seq anti_E p2).imp fun u H3 ⟨Hs3, u', g3, e3, p3⟩ => by
      obtain rfl : l = l' := e2
      obtain rfl : u = u' := e3
      have h1 : Is _ _ _ _ := Is.mono g3.s d (Is.mono g2.s d h1)
      cases d with
      | lst xs =>
        simp only [Is] at h1
        obtain ⟨t, vs, rfl, ht, hv⟩ := h1
        exact .inl (.inl ⟨t, vs, rfl, SqL.of (g3.sh _ _ ht), fun q hq => p3.later (grow_own g3.sh hq) (rs_new g3.sh hq (hv.cut l u))⟩)
      | tup xs =>
        simp only [Is] at h1
        obtain ⟨t, vs, rfl, ht, hv⟩ := h1
        refine .inl (.inr ⟨t, vs, rfl, ex_t g3.sh ht, fun z => ?_, fun _ q hq => p3.later (grow_new g3.sh hq) (Rs.d (is_tup_new g3.sh hq (hv.cut l u)))⟩)
        refine p3.now g3.sh (Rs.d ?_)
        have : cutD xs l u = xs := by
          unfold cutD
          rw [hv.len] at z
          rw [z.1, z.2, List.drop_zero, Nat.sub_zero, List.take_length]
        rw [this]
        simp only [Is]
        exact ⟨t, vs, rfl, ht, hv⟩
      | str z =>
        obtain ⟨ok, p3⟩ := guard_ok p3
        simp only [Is] at h1
        subst h1
        exact .inr ⟨z, rfl, cap_le ok, p3.now g3.sh (Rs.d (by rw [cutS_D]; exact isS))⟩
      | _ => exact p3.elim⟩⟩⟩⟩
theorem hd_slc {lo hi : Option Expr} {p2 : Pos} {f : Env → Out D} {gl gh : Env → Out (Option Int)} (ha : HD X W a f) (hl : HO' X W lo gl) (hh : HO' X W hi gh) : HD X W (.Subscript a (.Slice lo hi none p2) pos) (fun ρ => (dSlc f gl gh ρ).bind S.fz) := hd_of (he_slc ha hl hh)
/-- xs[::-1] of a list -/
def revS : D → Out S
  | .lst xs => .ok (.l xs.reverse)
  | _ => .stuck
theorem he_revL {k : Nat} {p1 p2 p3 : Pos} {f : Env → Out D} (ha : HD X W a f) : HE X W (.Subscript a (.Slice none none (some (.UnaryOp .USub (.Constant (.int 1) k p1) p2)) p3) pos) (d1 revS f) :=
  ⟨PE.imp (pe_revL ha.pe) fun σ H Q ⟨F, Gs, Hs, ρ, r, p⟩ => ⟨F, Gs, Hs, ρ, r, (Post.seq anti_E p).imp fun v H1 ⟨Hs1, d, g1, h1, p1⟩ => by
    have h1 : Is _ _ _ _ := h1
    cases d with
    | lst xs =>
      simp only [Is] at h1
      obtain ⟨t, vs, rfl, ht, hv⟩ := h1
      exact ⟨t, vs, rfl, SqL.of (g1.sh _ _ ht), fun q hq => p1.later (grow_own g1.sh hq) (rs_new g1.sh hq hv.rev)⟩
    | _ => exact p1.elim⟩⟩
/-! ### + of lists, * -/
def catS : D → D → Out S
  | .lst xs, .lst ys => guard' (xs.length + ys.length ≤ cap) (.ok (.l (xs ++ ys)))
  | _, _ => .stuck
def repS : D → D → Out S
  | .lst xs, .int k => guard' (k ≤ 1000 ∧ -1000 ≤ k ∧ xs.length * k.toNat ≤ cap) (.ok (.l (List.replicate k.toNat xs).flatten))
  | _, _ => .stuck
theorem bin_readE {f g : Env → Out D} {op : D → D → Out S} {σ : St} {H : Hp} {Q : VK} {r : R2} (h : tG (RE X.K X.mg) X.K X.mg W (d2 op f g) σ H Q)
    (hr : ∀ a b x y Hs H', Ex Hs H' → Is X.K Hs a x → Is X.K Hs b y → Post (RE X.K X.mg) X.mg W σ Hs H' (op a b) Q → r x y H' Q) : tOp r (tG (RD X.K) X.K X.mg W f) (tG (RD X.K) X.K X.mg W g) σ H Q := bin_read anti_E h hr
theorem he_cat {f g : Env → Out D} (ha : HD X W a f) (hb : HD X W b g) : HE X W (.BinOp a .Add b pos) (d2 catS f g) :=
  ⟨PE.imp (pe_op op_cat ha.pe hb.pe) fun σ H Q h => bin_readE h fun a b x y Hs H' e i1 i2 p => by
    cases a with
    | lst xs =>
      cases b with
      | lst ys =>
        obtain ⟨ok, p⟩ := guard_ok p
        simp only [Is] at i1 i2
        obtain ⟨t, vs, rfl, ht, hv⟩ := i1
        obtain ⟨u, us, rfl, hu, hw⟩ := i2
        have l1 := hv.len
        have l2 := hw.len
        exact ⟨t, u, vs, us, rfl, rfl, e _ _ ht, e _ _ hu, cap_le (by omega), fun q hq => p.later (grow_own e hq) (rs_new e hq (hv.app hw))⟩
      | _ => exact p.elim
    | _ => cases b <;> exact p.elim⟩
theorem he_rep {f g : Env → Out D} (ha : HD X W a f) (hb : HD X W b g) : HE X W (.BinOp a .Mult b pos) (d2 repS f g) :=
  ⟨PE.imp (pe_op op_rep ha.pe hb.pe) fun σ H Q h => bin_readE h fun a b x y Hs H' e i1 i2 p => by
    cases a with
    | lst xs =>
      cases b with
      | int k =>
        obtain ⟨⟨k1, k2, ok⟩, p⟩ := guard_ok p
        simp only [Is] at i1 i2
        obtain ⟨t, vs, rfl, ht, hv⟩ := i1
        exact ⟨t, k, vs, rfl, i2, e _ _ ht, by omega, by omega, by rw [hv.len]; exact cap_le ok, fun q hq => p.later (grow_own e hq) (rs_new e hq (hv.rep _))⟩
      | _ => exact p.elim
    | _ => cases b <;> exact p.elim⟩
end
end G

set_option Elab.async false
set_option linter.all false
set_option maxRecDepth 100000
set_option maxHeartbeats 2000000
namespace G
open PySem L2
open Evl (Ex ex_l ex_t ex_rd)

def RBA (K : PySem.W.Frag) : Rel (List D) (List V) := fun _ _ H' ds vs => IsAll K H' ds vs
theorem anti_BA {K} : Anti (RBA K) := fun _ _ _ _ _ _ _ h => h
/-- borrowed arguments -/
structure HAb (X : Cx) (W : WX) (es : List Expr) (f : Env → Out (List D)) : Prop where
  pa : PA X es (tG (RBA X.K) X.K X.mg W f)
/-- shared values as arguments -/
def Args (K : PySem.W.Frag) (mg : Str → Option Value) (Hs : Hp) : List S → List V → Prop
  | [], vs => vs = []
  | s :: ss, vs => ∃ v r, vs = v :: r ∧ Own K mg Hs Hs s v [] ∧ Args K mg Hs ss r
theorem Args.mono {K : PySem.W.Frag} {mg : Str → Option Value} {H H' : Hp} (e : Ex H H') : ∀ {ss : List S} {vs : List V}, Args K mg H ss vs → Args K mg H' ss vs
  | [], _, h => h
  | _ :: _, _, ⟨v, r, e1, h1, h2⟩ => ⟨v, r, e1, h1.mono e e, Args.mono e h2⟩
theorem Args.len {K : PySem.W.Frag} {mg : Str → Option Value} {H : Hp} : ∀ {ss : List S} {vs : List V}, Args K mg H ss vs → vs.length = ss.length
  | [], _, h => by rw [show _ = [] from h]; rfl
  | _ :: _, _, ⟨v, r, e1, h1, h2⟩ => by rw [e1, List.length_cons, List.length_cons, Args.len h2]
theorem Args.get {K : PySem.W.Frag} {mg : Str → Option Value} {H : Hp} : ∀ {ss : List S} {vs : List V}, Args K mg H ss vs → ∀ (i : Nat) {s : S}, ss[i]? = some s → ∃ v, vs[i]? = some v ∧ Own K mg H H s v []
  | [], _, _, _, _, e => by simp at e
  | _ :: _, _, ⟨v, r, e1, h1, h2⟩, i, _, e => by
    subst e1
    cases i with
    | zero => simp at e; subst e; exact ⟨v, rfl, h1⟩
    | succ i => simpa using Args.get h2 i (by simpa using e)
def RAS (K : PySem.W.Frag) (mg : Str → Option Value) : Rel (List S) (List V) := fun _ Hs' _ ss vs => Args K mg Hs' ss vs
def RASb (K : PySem.W.Frag) (mg : Str → Option Value) : Rel (List S) (List V) := fun _ _ H' ss vs => Args K mg H' ss vs
theorem anti_AS {K mg} : Anti (RAS K mg) := fun _ _ _ _ _ _ _ h => h
theorem anti_ASb {K mg} : Anti (RASb K mg) := fun _ _ _ _ _ _ _ h => h
structure HAS (X : Cx) (W : WX) (es : List Expr) (f : Env → Out (List S)) : Prop where
  pa : PA X es (tG (RAS X.K X.mg) X.K X.mg W f)
structure HASb (X : Cx) (W : WX) (es : List Expr) (f : Env → Out (List S)) : Prop where
  pa : PA X es (tG (RASb X.K X.mg) X.K X.mg W f)
/-- a shared value of any kind -/
def Shd : S → Prop
  | .d _ => True
  | .x _ _ => True
  | .o _ _ => True
  | _ => False
def RS (K : PySem.W.Frag) (mg : Str → Option Value) : Rel S V := fun _ Hs' _ s v => Own K mg Hs' Hs' s v []
theorem anti_S {K mg} : Anti (RS K mg) := fun _ _ _ _ _ _ _ h => h
structure HV (X : Cx) (W : WX) (e : Expr) (f : Env → Out S) : Prop where
  pe : PE X e (tG (RS X.K X.mg) X.K X.mg W f)

section
variable {X : Cx} {W : WX} {e a b c : Expr} {es : List Expr} {pos : Pos}
theorem hab_nil : HAb X W [] aNil := ⟨PA.imp pa_nil fun σ H Q ⟨F, Gs, Hs, ρ, r, p⟩ => p.now r.sh isAll_nil⟩
theorem hab_cons {f : Env → Out D} {g : Env → Out (List D)} (ha : HB X W e f) (hr : HAb X W es g) (hs : starEach (e :: es) X.env = (false, eval e X.env) :: starEach es X.env := by rfl) : HAb X W (e :: es) (aCons f g) :=
  ⟨PA.imp (pa_cons ha.pe hr.pa hs) fun σ H Q ⟨F, Gs, Hs, ρ, r, p⟩ => ⟨F, Gs, Hs, ρ, r, (Post.seq anti_BA p).imp fun v H1 ⟨Hs1, d, g1, h1, p1⟩ =>
    ⟨F, Gs, Hs1, ρ, r.grow g1, (Post.seq anti_BA p1).imp fun vs H2 ⟨Hs2, ds, g2, h2, p2⟩ => p2.now g2.sh (isAll_cons (Is.mono g2.h d h1) h2)⟩⟩⟩
/-- a slot's shared value -/
def dVS (i : Nat) : Env → Out S := fun ρ => match ρ[i]? with
  | some (some (.d d)) => .ok (.d d)
  | some (some (.x c p)) => .ok (.x c p)
  | some (some (.o c p)) => .ok (.o c p)
  | _ => .stuck
theorem hv_v (i : Nat) {x : Str} (hN : X.N[i]? = some x := by rfl) (hv : Vis X.env.scope x := by first | exact Or.inl rfl | exact Or.inr (Or.inl rfl) | exact Or.inr (Or.inr rfl)) (hd : (x == ("__debug__" : Str)) = false := by decide)
    (hcd : (x == ("__classdict__" : Str)) = false := by decide) : HV X W (.Name x pos) (dVS i) := ⟨PE.imp (pe_var hN hv hd hcd) fun σ H Q ⟨F, Gs, Hs, ρ, r, p⟩ => by
  unfold dVS at p
  obtain ⟨fp, sl⟩ := r.sl
  split at p
  · rename_i d e
    obtain ⟨v, e1, _, o⟩ := sl.own i _ e
    exact ⟨v, e1, p.now r.sh ⟨rfl, o⟩⟩
  · rename_i d e
    obtain ⟨v, e1, _, o⟩ := sl.own i _ e
    exact ⟨v, e1, p.now r.sh ⟨rfl, o⟩⟩
  · rename_i d e
    obtain ⟨v, e1, _, o⟩ := sl.own i _ e
    exact ⟨v, e1, p.now r.sh ⟨rfl, o⟩⟩
  · exact p.elim⟩
def toS (f : Env → Out D) : Env → Out S := fun ρ => (f ρ).bind fun d => .ok (.d d)
theorem hv_d {f : Env → Out D} (h : HD X W e f) : HV X W e (toS f) := ⟨PE.imp h.pe fun σ H Q ⟨F, Gs, Hs, ρ, r, p⟩ => ⟨F, Gs, Hs, ρ, r, (Post.seq anti_S p).imp fun v H1 ⟨Hs1, d, g1, h1, p1⟩ => p1.now g1.sh ⟨rfl, h1⟩⟩⟩
def sNil : Env → Out (List S) := fun _ => .ok []
def sCons (f : Env → Out S) (g : Env → Out (List S)) : Env → Out (List S) := fun ρ => (f ρ).bind fun d => (g ρ).bind fun ds => .ok (d :: ds)
theorem has_nil : HAS X W [] sNil := ⟨PA.imp pa_nil fun σ H Q ⟨F, Gs, Hs, ρ, r, p⟩ => p.now r.sh rfl⟩
theorem has_cons {f : Env → Out S} {g : Env → Out (List S)} (ha : HV X W e f) (hr : HAS X W es g) (hs : starEach (e :: es) X.env = (false, eval e X.env) :: starEach es X.env := by rfl) : HAS X W (e :: es) (sCons f g) :=
  ⟨PA.imp (pa_cons ha.pe hr.pa hs) fun σ H Q ⟨F, Gs, Hs, ρ, r, p⟩ => ⟨F, Gs, Hs, ρ, r, (Post.seq anti_AS p).imp fun v H1 ⟨Hs1, d, g1, h1, p1⟩ =>
    ⟨F, Gs, Hs1, ρ, r.grow g1, (Post.seq anti_AS p1).imp fun vs H2 ⟨Hs2, ds, g2, h2, p2⟩ => p2.now g2.sh ⟨v, vs, rfl, Own.mono g2.s g2.s h1, h2⟩⟩⟩⟩
theorem hasb_nil : HASb X W [] sNil := ⟨PA.imp pa_nil fun σ H Q ⟨F, Gs, Hs, ρ, r, p⟩ => p.now r.sh rfl⟩
theorem hasb_cons {f : Env → Out D} {g : Env → Out (List S)} (ha : HB X W e f) (hr : HASb X W es g) (hs : starEach (e :: es) X.env = (false, eval e X.env) :: starEach es X.env := by rfl) : HASb X W (e :: es) (sCons (toS f) g) :=
  ⟨PA.imp (pa_cons ha.pe hr.pa hs) fun σ H Q ⟨F, Gs, Hs, ρ, r, p⟩ => by
    have p : Post (RASb X.K X.mg) X.mg W σ Hs H ((f ρ).bind fun d => (g ρ).bind fun ds => .ok (.d d :: ds)) Q := by
      have e : sCons (toS f) g ρ = ((f ρ).bind fun d => (g ρ).bind fun ds => .ok (.d d :: ds)) := by
        unfold sCons toS
        cases f ρ <;> rfl
      rw [← e]; exact p
    exact ⟨F, Gs, Hs, ρ, r, (Post.seq anti_ASb p).imp fun v H1 ⟨Hs1, d, g1, h1, p1⟩ =>
      ⟨F, Gs, Hs1, ρ, r.grow g1, (Post.seq anti_ASb p1).imp fun vs H2 ⟨Hs2, ds, g2, h2, p2⟩ => p2.now g2.sh ⟨v, vs, rfl, ⟨rfl, Is.mono g2.h d h1⟩, h2⟩⟩⟩⟩

/-! ### built-in calls -/
def OpA (X : Cx) (r : List V → Hp → VK → Prop) (op : List D → Out D) : Prop := ∀ (W : WX) (σ : St) (ds : List D) (vs : List V) (Hs H : Hp) (Q : VK), Ex Hs H → IsAll X.K H ds vs → Post (RD X.K) X.mg W σ Hs H (op ds) Q → r vs H Q
def dA {α β : Type} (op : α → Out β) (f : Env → Out α) : Env → Out β := fun ρ => (f ρ).bind op
theorem opA_read {r : List V → Hp → VK → Prop} {op : List D → Out D} {f : Env → Out (List D)} {σ : St} {H : Hp} {Q : VK} (ho : OpA X r op) (h : tG (RD X.K) X.K X.mg W (dA op f) σ H Q) : tCB r (tG (RBA X.K) X.K X.mg W f) σ H Q := by
  obtain ⟨F, Gs, Hs, ρ, r, p⟩ := h
  exact ⟨F, Gs, Hs, ρ, r, (Post.seq anti_D p).imp fun vs H1 ⟨Hs1, ds, g1, h1, p1⟩ => ho W σ ds vs Hs1 H1 Q g1.sh h1 p1⟩
variable {x : Str} {p1 : Pos}
theorem hd_callB {id : String} {r : List V → Hp → VK → Prop} {op : List D → Out D} {f : Env → Out (List D)} (hc : CallR X (.builtin id) r) (ho : OpA X r op) (hg : Gl X x) (hm : X.mg x = none) (hv : bootBuiltins x = some (.builtin id)) (ha : HAb X W (e :: es) f) (hn : x ≠ "__name__" := by decide) (hdb : (x == ("__debug__" : Str)) = false := by decide)
    (hs : starEach (e :: es) X.env = (false, eval e X.env) :: starEach es X.env := by rfl) (hpl : (backTo pos (starEach es X.env)).any (·.1) = false := by rfl) : HD X W (.Call (.Name x p1) (e :: es) [] pos) (dA op f) :=
  ⟨PE.imp (pe_callB hc hg hm hv ha.pa hn hdb hs hpl) fun σ H Q h => opA_read ho h⟩
theorem hd_callT {T : String} {r : List V → Hp → VK → Prop} {op : List D → Out D} {f : Env → Out (List D)} (hc : CallR X (.type T) r) (ho : OpA X r op) (hg : Gl X x) (hm : X.mg x = none) (hv : bootBuiltins x = some (.type T)) (ha : HAb X W (e :: es) f) (hn : x ≠ "__name__" := by decide) (hdb : (x == ("__debug__" : Str)) = false := by decide)
    (hs : starEach (e :: es) X.env = (false, eval e X.env) :: starEach es X.env := by rfl) (hpl : (backTo pos (starEach es X.env)).any (·.1) = false := by rfl) : HD X W (.Call (.Name x p1) (e :: es) [] pos) (dA op f) :=
  ⟨PE.imp (pe_callTy hc hg hm hv ha.pa hn hdb hs hpl) fun σ H Q h => opA_read ho h⟩
theorem isAll1 {K : PySem.W.Frag} {H : Hp} {d : D} {vs : List V} (h : IsAll K H [d] vs) : ∃ v, vs = [v] ∧ Is K H d v := by
  simp only [IsAll] at h
  obtain ⟨v, r, e, h1, h2⟩ := h
  subst h2; exact ⟨v, e, h1⟩
theorem isAll2 {K : PySem.W.Frag} {H : Hp} {d d' : D} {vs : List V} (h : IsAll K H [d, d'] vs) : ∃ v u, vs = [v, u] ∧ Is K H d v ∧ Is K H d' u := by
  simp only [IsAll] at h
  obtain ⟨v, r, e, h1, u, r', e', h2, h3⟩ := h
  subst h3; subst e'; exact ⟨v, u, e, h1, h2⟩
def lenD : List D → Out D
  | [.lst xs] => .ok (.int xs.length)
  | [.tup xs] => .ok (.int xs.length)
  | [.scr xs] => .ok (.int xs.length)
  | [.str x] => guard' (x.length ≤ cap) (.ok (.int x.length))
  | _ => .stuck
theorem opa_len : OpA X (fun xs H Q => ∃ x n, xs = [x] ∧ LenV X.K x H n ∧ Q (.int n) H) lenD := fun W σ ds vs Hs H Q e h p => by
  unfold lenD at p
  split at p
  · have h0 := isAll1 h; clear h; obtain ⟨v, hvs, h⟩ := h0; subst hvs
    simp only [Is] at h
    obtain ⟨a, us, rfl, h1, h2⟩ := h
    exact ⟨_, _, rfl, .inl ⟨us, SqL.of h1, rfl⟩, by rw [h2.len]; exact p.now e isI⟩
  · have h0 := isAll1 h; clear h; obtain ⟨v, hvs, h⟩ := h0; subst hvs
    simp only [Is] at h
    obtain ⟨a, us, rfl, h1, h2⟩ := h
    exact ⟨_, _, rfl, .inr ⟨us, h1, rfl⟩, by rw [h2.len]; exact p.now e isI⟩
  · have h0 := isAll1 h; clear h; obtain ⟨v, hvs, h⟩ := h0; subst hvs
    simp only [Is] at h
    obtain ⟨a, rfl, h1⟩ := h
    exact ⟨_, _, rfl, .inl ⟨_, h1, rfl⟩, by rw [List.length_map]; exact p.now e isI⟩
  · have h0 := isAll1 h; clear h; obtain ⟨v, hvs, h⟩ := h0; subst hvs
    obtain ⟨ok, p⟩ := guard_ok p
    simp only [Is] at h
    subst h
    exact ⟨_, _, rfl, ⟨cap_le ok, rfl⟩, p.now e isI⟩
  · exact p.elim
theorem hd_len {f : Env → Out (List D)} (hm : X.mg "len" = none) (ha : HAb X W (e :: es) f) (hg : Gl X "len" := by rfl)
    (hs : starEach (e :: es) X.env = (false, eval e X.env) :: starEach es X.env := by rfl) (hpl : (backTo pos (starEach es X.env)).any (·.1) = false := by rfl) : HD X W (.Call (.Name "len" p1) (e :: es) [] pos) (dA lenD f) := hd_callB call_len opa_len hg hm boot_len ha (by decide) (by decide) hs hpl
def absD : List D → Out D
  | [.int i] => .ok (.int (if i < 0 then -i else i))
  | _ => .stuck
theorem opa_abs : OpA X (fun xs H Q => ∃ i, xs = [.int i] ∧ Q (.int (if i < 0 then -i else i)) H) absD := fun W σ ds vs Hs H Q e h p => by
  unfold absD at p
  split at p
  · have h0 := isAll1 h; clear h; obtain ⟨v, hvs, h⟩ := h0; subst hvs
    simp only [Is] at h
    subst h
    exact ⟨_, rfl, p.now e isI⟩
  · exact p.elim
theorem hd_abs {f : Env → Out (List D)} (hm : X.mg "abs" = none) (ha : HAb X W (e :: es) f) (hg : Gl X "abs" := by rfl)
    (hs : starEach (e :: es) X.env = (false, eval e X.env) :: starEach es X.env := by rfl) (hpl : (backTo pos (starEach es X.env)).any (·.1) = false := by rfl) : HD X W (.Call (.Name "abs" p1) (e :: es) [] pos) (dA absD f) := hd_callB call_abs opa_abs hg hm (by decide +kernel) ha (by decide) (by decide) hs hpl
def maxD : List D → Out D
  | [.int i, .int j] => .ok (.int (if j > i then j else i))
  | _ => .stuck
def minD : List D → Out D
  | [.int i, .int j] => .ok (.int (if j < i then j else i))
  | _ => .stuck
theorem opa_max : OpA X (fun xs H Q => ∃ i j, xs = [.int i, .int j] ∧ Q (.int (if j > i then j else i)) H) maxD := fun W σ ds vs Hs H Q e h p => by
  unfold maxD at p
  split at p
  · have h0 := isAll2 h; clear h; obtain ⟨v, u, hvs, h, h'⟩ := h0; subst hvs
    simp only [Is] at h h'
    subst h; subst h'
    exact ⟨_, _, rfl, p.now e isI⟩
  · exact p.elim
theorem opa_min : OpA X (fun xs H Q => ∃ i j, xs = [.int i, .int j] ∧ Q (.int (if j < i then j else i)) H) minD := fun W σ ds vs Hs H Q e h p => by
  unfold minD at p
  split at p
  · have h0 := isAll2 h; clear h; obtain ⟨v, u, hvs, h, h'⟩ := h0; subst hvs
    simp only [Is] at h h'
    subst h; subst h'
    exact ⟨_, _, rfl, p.now e isI⟩
  · exact p.elim
theorem hd_max {f : Env → Out (List D)} (hc : X.calm = true) (hm : X.mg "max" = none) (ha : HAb X W (e :: es) f) (hg : Gl X "max" := by rfl)
    (hs : starEach (e :: es) X.env = (false, eval e X.env) :: starEach es X.env := by rfl) (hpl : (backTo pos (starEach es X.env)).any (·.1) = false := by rfl) : HD X W (.Call (.Name "max" p1) (e :: es) [] pos) (dA maxD f) := hd_callB (call_max2 hc) opa_max hg hm (by decide +kernel) ha (by decide) (by decide) hs hpl
theorem hd_min {f : Env → Out (List D)} (hc : X.calm = true) (hm : X.mg "min" = none) (ha : HAb X W (e :: es) f) (hg : Gl X "min" := by rfl)
    (hs : starEach (e :: es) X.env = (false, eval e X.env) :: starEach es X.env := by rfl) (hpl : (backTo pos (starEach es X.env)).any (·.1) = false := by rfl) : HD X W (.Call (.Name "min" p1) (e :: es) [] pos) (dA minD f) := hd_callB (call_min2 hc) opa_min hg hm (by decide +kernel) ha (by decide) (by decide) hs hpl
/-- int(..) of an int, a bool, a text of figures -/
def intD : List D → Out D
  | [.int i] => .ok (.int i)
  | [.bl b] => .ok (.int (if b then 1 else 0))
  | [.str x] => guard' (x.length ≤ 640) (oOf ((PySem.intText? x).map .int))
  | _ => .stuck
theorem opa_int : OpA X (fun xs H Q => ((∃ i, xs = [.int i] ∧ Q (.int i) H) ∨ ∃ k, xs = [.bl k] ∧ Q (.int (if k then 1 else 0)) H) ∨ ∃ a n, xs = [.str a] ∧ PySem.intText? a = some n ∧ a.length ≤ 640 ∧ Q (.int n) H) intD := fun W σ ds vs Hs H Q e h p => by
  unfold intD at p
  split at p
  · have h0 := isAll1 h; clear h; obtain ⟨v, hvs, h⟩ := h0; subst hvs
    simp only [Is] at h
    subst h
    exact .inl (.inl ⟨_, rfl, p.now e isI⟩)
  · have h0 := isAll1 h; clear h; obtain ⟨v, hvs, h⟩ := h0; subst hvs
    simp only [Is] at h
    subst h
    exact .inl (.inr ⟨_, rfl, p.now e isI⟩)
  · rename_i x
    have h0 := isAll1 h; clear h; obtain ⟨v, hvs, h⟩ := h0; subst hvs
    obtain ⟨ok, p⟩ := guard_ok p
    obtain ⟨d, e1, p⟩ := oOf_ok p
    simp only [Is] at h
    subst h
    cases q : PySem.intText? x with
    | none => rw [q] at e1; cases e1
    | some n =>
      rw [q] at e1
      have e2 : D.int n = d := by simpa using e1
      subst e2
      exact .inr ⟨_, n, rfl, q, ok, p.now e isI⟩
  · exact p.elim
theorem hd_int' {f : Env → Out (List D)} (hm : X.mg "int" = none) (ha : HAb X W (e :: es) f) (hg : Gl X "int" := by rfl)
    (hs : starEach (e :: es) X.env = (false, eval e X.env) :: starEach es X.env := by rfl) (hpl : (backTo pos (starEach es X.env)).any (·.1) = false := by rfl) : HD X W (.Call (.Name "int" p1) (e :: es) [] pos) (dA intD f) := hd_callT (call_int1.or call_int_str) opa_int hg hm (by decide +kernel) ha (by decide) (by decide) hs hpl
/-- str(n) -/
def strD : List D → Out D
  | [.int i] => guard' (i.natAbs.log2 < 1920) (.ok (.str (toString i)))
  | _ => .stuck
theorem opa_str : OpA X (fun xs H Q => ∃ i, xs = [.int i] ∧ i.natAbs.log2 < 1920 ∧ Q (.str (toString i)) H) strD := fun W σ ds vs Hs H Q e h p => by
  unfold strD at p
  split at p
  · have h0 := isAll1 h; clear h; obtain ⟨v, hvs, h⟩ := h0; subst hvs
    obtain ⟨ok, p⟩ := guard_ok p
    simp only [Is] at h
    subst h
    exact ⟨_, rfl, ok, p.now e isS⟩
  · exact p.elim
theorem hd_str' {f : Env → Out (List D)} (hm : X.mg "str" = none) (ha : HAb X W (e :: es) f) (hg : Gl X "str" := by rfl)
    (hs : starEach (e :: es) X.env = (false, eval e X.env) :: starEach es X.env := by rfl) (hpl : (backTo pos (starEach es X.env)).any (·.1) = false := by rfl) : HD X W (.Call (.Name "str" p1) (e :: es) [] pos) (dA strD f) := hd_callT call_str_int opa_str hg hm (by decide +kernel) ha (by decide) (by decide) hs hpl

/-! ### lists of ints, of bools, of texts -/
def intsOf : List D → Option (List Int)
  | [] => some []
  | .int i :: r => (intsOf r).map (i :: ·)
  | _ => none
def blsOf : List D → Option (List Bool)
  | [] => some []
  | .bl i :: r => (blsOf r).map (i :: ·)
  | _ => none
def strsOf : List D → Option (List Str)
  | [] => some []
  | .str i :: r => (strsOf r).map (i :: ·)
  | _ => none
theorem ints_is {K : PySem.W.Frag} {H : Hp} : ∀ {ds : List D} {vs : List V} {ns : List Int}, IsAll K H ds vs → intsOf ds = some ns → vs = ns.map V.int
  | [], _, _, h, e => by simp only [IsAll] at h; simp only [intsOf] at e; cases e; exact h
  | d :: ds, _, _, h, e => by
    simp only [IsAll] at h
    obtain ⟨v, r, e1, h1, h2⟩ := h
    cases d with
    | int i =>
      simp only [intsOf] at e
      cases q : intsOf ds with
      | none => rw [q] at e; cases e
      | some ms =>
        rw [q] at e
        have e2 : i :: ms = _ := Option.some.inj e
        subst e2
        simp only [Is] at h1
        subst h1
        rw [e1, List.map_cons, ints_is h2 q]
    | _ => simp only [intsOf] at e; cases e
theorem bls_is {K : PySem.W.Frag} {H : Hp} : ∀ {ds : List D} {vs : List V} {ns : List Bool}, IsAll K H ds vs → blsOf ds = some ns → vs = ns.map V.bl
  | [], _, _, h, e => by simp only [IsAll] at h; simp only [blsOf] at e; cases e; exact h
  | d :: ds, _, _, h, e => by
    simp only [IsAll] at h
    obtain ⟨v, r, e1, h1, h2⟩ := h
    cases d with
    | bl i =>
      simp only [blsOf] at e
      cases q : blsOf ds with
      | none => rw [q] at e; cases e
      | some ms =>
        rw [q] at e
        have e2 : i :: ms = _ := Option.some.inj e
        subst e2
        simp only [Is] at h1
        subst h1
        rw [e1, List.map_cons, bls_is h2 q]
    | _ => simp only [blsOf] at e; cases e
theorem strs_is {K : PySem.W.Frag} {H : Hp} : ∀ {ds : List D} {vs : List V} {ns : List Str}, IsAll K H ds vs → strsOf ds = some ns → vs = ns.map V.str
  | [], _, _, h, e => by simp only [IsAll] at h; simp only [strsOf] at e; cases e; exact h
  | d :: ds, _, _, h, e => by
    simp only [IsAll] at h
    obtain ⟨v, r, e1, h1, h2⟩ := h
    cases d with
    | str i =>
      simp only [strsOf] at e
      cases q : strsOf ds with
      | none => rw [q] at e; cases e
      | some ms =>
        rw [q] at e
        have e2 : i :: ms = _ := Option.some.inj e
        subst e2
        simp only [Is] at h1
        subst h1
        rw [e1, List.map_cons, strs_is h2 q]
    | _ => simp only [strsOf] at e; cases e
def ofL {α : Type} (conv : List D → Option α) (k : α → D) : List D → Out D
  | [.lst xs] => oOf ((conv xs).map k)
  | _ => .stuck
theorem ofL_read {α : Type} {conv : List D → Option α} {k : α → D} {σ : St} {ds : List D} {vs : List V} {Hs H : Hp} {Q : VK} (h : IsAll X.K H ds vs) (p : Post (RD X.K) X.mg W σ Hs H (ofL conv k ds) Q) :
    ∃ (a : Addr) (xs : List D) (us : List V) (z : α), vs = [.ref a] ∧ H a = some (.lst us) ∧ IsAll X.K H xs us ∧ conv xs = some z ∧ Post (RD X.K) X.mg W σ Hs H (.ok (k z)) Q := by
  unfold ofL at p
  split at p
  · rename_i xs
    have h0 := isAll1 h; clear h; obtain ⟨v, hvs, h⟩ := h0; subst hvs
    obtain ⟨d, e1, p⟩ := oOf_ok p
    simp only [Is] at h
    obtain ⟨a, us, rfl, h1, h2⟩ := h
    cases q : conv xs with
    | none => rw [q] at e1; cases e1
    | some z =>
      rw [q] at e1
      have e2 : k z = d := by simpa using e1
      rw [← e2] at p
      exact ⟨a, xs, us, z, rfl, h1, h2, q, p⟩
  · exact p.elim
def sumD : List D → Out D := ofL intsOf fun ns => .int ns.sum
def anyD : List D → Out D := ofL blsOf fun bs => .bl (bs.any id)
def allD : List D → Out D := ofL blsOf fun bs => .bl (bs.all id)
theorem hd_sum {f : Env → Out (List D)} (hc : X.calm = true) (hm : X.mg "sum" = none) (ha : HAb X W (e :: es) f) (hg : Gl X "sum" := by rfl)
    (hs : starEach (e :: es) X.env = (false, eval e X.env) :: starEach es X.env := by rfl) (hpl : (backTo pos (starEach es X.env)).any (·.1) = false := by rfl) : HD X W (.Call (.Name "sum" p1) (e :: es) [] pos) (dA sumD f) :=
  hd_callB (cr_sum hc) (fun W σ ds vs Hs H Q e h p => by
    obtain ⟨a, xs, us, ns, rfl, h1, h2, q, p⟩ := ofL_read h p
    exact ⟨a, ns, rfl, by rw [← ints_is h2 q]; exact SqL.of h1, p.now e isI⟩) hg hm (by decide +kernel) ha (by decide) (by decide) hs hpl
theorem hd_any {f : Env → Out (List D)} (hc : X.calm = true) (hm : X.mg "any" = none) (ha : HAb X W (e :: es) f) (hg : Gl X "any" := by rfl)
    (hs : starEach (e :: es) X.env = (false, eval e X.env) :: starEach es X.env := by rfl) (hpl : (backTo pos (starEach es X.env)).any (·.1) = false := by rfl) : HD X W (.Call (.Name "any" p1) (e :: es) [] pos) (dA anyD f) :=
  hd_callB (cr_any hc) (fun W σ ds vs Hs H Q e h p => by
    obtain ⟨a, xs, us, ns, rfl, h1, h2, q, p⟩ := ofL_read h p
    exact ⟨a, ns, rfl, by rw [← bls_is h2 q]; exact SqL.of h1, p.now e isB⟩) hg hm (by decide +kernel) ha (by decide) (by decide) hs hpl
theorem hd_all {f : Env → Out (List D)} (hc : X.calm = true) (hm : X.mg "all" = none) (ha : HAb X W (e :: es) f) (hg : Gl X "all" := by rfl)
    (hs : starEach (e :: es) X.env = (false, eval e X.env) :: starEach es X.env := by rfl) (hpl : (backTo pos (starEach es X.env)).any (·.1) = false := by rfl) : HD X W (.Call (.Name "all" p1) (e :: es) [] pos) (dA allD f) :=
  hd_callB (cr_all hc) (fun W σ ds vs Hs H Q e h p => by
    obtain ⟨a, xs, us, ns, rfl, h1, h2, q, p⟩ := ofL_read h p
    exact ⟨a, ns, rfl, by rw [← bls_is h2 q]; exact SqL.of h1, p.now e isB⟩) hg hm (by decide +kernel) ha (by decide) (by decide) hs hpl
end
end G

set_option Elab.async false
set_option linter.all false
set_option maxRecDepth 100000
set_option maxHeartbeats 2000000
namespace G
open PySem L2
open Evl (Ex ex_l ex_t ex_rd)

/-- what is wanted behind statements -/
def PostS (K : PySem.W.Frag) (mg : Str → Option Value) (W : WX) (asg : List Nat) (F Gs Hs : Hp) (σ : St) (r : Out Res) (D : Ends) : Prop := match r with
  | .ok (.next ρ') => ∀ σ' Hs' H', Rep K mg F Gs Hs' H' σ' ρ' → Ex Hs Hs' → (∀ i, i ∉ asg → σ'[i]? = σ[i]?) → D.nx σ' H'
  | .ok (.ret s) => ∀ v Hs' H', Grow Gs F Hs' H' → Rs K mg F Hs' H' s v → D.rt v H'
  | .exc c p => ∀ cls d σ' Hs' H', Grow Gs F Hs' H' → XIs mg H' c p cls d → W cls d σ' H'
  | .stuck => False
def tS (K : PySem.W.Frag) (mg : Str → Option Value) (W : WX) (asg : List Nat) (f : Env → Out Res) : TS := fun D σ H => ∃ F Gs Hs ρ, Rep K mg F Gs Hs H σ ρ ∧ PostS K mg W asg F Gs Hs σ (f ρ) D
/-- a slot but for the fields of an own object -/
def mq : Option (Option S) → Option (Option S)
  | some (some (.m c _)) => some (some (.m c []))
  | o => o
/-- slots outside asg stand, but for the fields of own objects -/
def Fix (asg : List Nat) (f : Env → Out Res) : Prop := ∀ ρ ρ', f ρ = .ok (.next ρ') → ∀ i, i ∉ asg → mq ρ'[i]? = mq ρ[i]?
structure HS1 (X : Cx) (W : WX) (st : Stmt) (asg : List Nat) (f : Env → Out Res) : Prop where
  ps : PS X st (tS X.K X.mg W asg f)
  fix : Fix asg f
structure HS (X : Cx) (W : WX) (sts : List Stmt) (asg : List Nat) (f : Env → Out Res) : Prop where
  pss : PSs X sts (tS X.K X.mg W asg f)
  fix : Fix asg f
def sNext : Env → Out Res := fun ρ => .ok (.next ρ)
def sSeq (f g : Env → Out Res) : Env → Out Res := fun ρ => (f ρ).bind fun r => match r with
  | .next ρ' => g ρ'
  | .ret s => .ok (.ret s)
section
variable {X : Cx} {W : WX} {e a b c : Expr} {es : List Expr} {pos : Pos} {st : Stmt} {sts rest : List Stmt} {asg asg' : List Nat} {f g : Env → Out Res}
theorem PS.imp {t t' : TS} (h : PS X st t) (k : ∀ D σ H, t' D σ H → t D σ H) : PS X st t' := ⟨fun pins s σ H D I q => h.run pins s σ H D I (k _ _ _ q)⟩
theorem PSs.imp {t t' : TS} (h : PSs X sts t) (k : ∀ D σ H, t' D σ H → t D σ H) : PSs X sts t' := ⟨fun pins s σ H D I q => h.run pins s σ H D I (k _ _ _ q)⟩
theorem PostS.mono {K : PySem.W.Frag} {mg : Str → Option Value} {F Gs Hs Hs' : Hp} {σ σ' : St} {r : Out Res} {D : Ends} (h : PostS K mg W asg F Gs Hs σ r D) (e : Ex Hs Hs') (k : ∀ i, i ∉ asg → σ'[i]? = σ[i]?) : PostS K mg W asg F Gs Hs' σ' r D := by
  cases r with
  | ok r =>
    cases r with
    | next ρ => exact fun σ2 Hs2 H2 r2 e2 k2 => h σ2 Hs2 H2 r2 (e.trans e2) fun i hi => (k2 i hi).trans (k i hi)
    | ret s => exact h
  | exc c p => exact h
  | stuck => exact h
theorem hs_nil : HS X W [] [] sNext := ⟨PSs.imp pss_nil fun D σ H ⟨F, Gs, Hs, ρ, r, p⟩ => p σ Hs H r (Ex.refl _) fun _ _ => rfl, fun ρ ρ' e i _ => by cases e; rfl⟩
theorem fix_seq (h1 : Fix asg f) (h2 : Fix asg' g) : Fix (asg ++ asg') (sSeq f g) := fun ρ ρ' e i hi => by
  unfold sSeq at e
  cases q : f ρ with
  | ok r =>
    rw [q] at e
    cases r with
    | next ρ1 =>
      have e : g ρ1 = _ := e
      rw [h2 ρ1 ρ' e i fun z => hi (List.mem_append_right _ z), h1 ρ ρ1 q i fun z => hi (List.mem_append_left _ z)]
    | ret s => cases e
  | exc c p => rw [q] at e; cases e
  | stuck => rw [q] at e; cases e
theorem hs_cons (h1 : HS1 X W st asg f) (h2 : HS X W rest asg' g) : HS X W (st :: rest) (asg ++ asg') (sSeq f g) := by
  refine ⟨PSs.imp (pss_cons h1.ps h2.pss) fun D σ H ⟨F, Gs, Hs, ρ, r, p⟩ => ⟨F, Gs, Hs, ρ, r, ?_⟩, fix_seq h1.fix h2.fix⟩
  unfold sSeq at p
  cases q : f ρ with
  | ok r1 =>
    rw [q] at p
    cases r1 with
    | next ρ1 =>
      intro σ1 Hs1 H1 r1 e1 k1
      refine ⟨F, Gs, Hs1, ρ1, r1, ?_⟩
      have p : PostS X.K X.mg W (asg ++ asg') F Gs Hs σ (g ρ1) D := p
      cases q2 : g ρ1 with
      | ok r2 =>
        rw [q2] at p
        cases r2 with
        | next ρ2 => exact fun σ2 Hs2 H2 r2 e2 k2 => p σ2 Hs2 H2 r2 (e1.trans e2) fun i hi => (k2 i fun z => hi (List.mem_append_right _ z)).trans (k1 i fun z => hi (List.mem_append_left _ z))
        | ret s => exact p
      | exc c p' => rw [q2] at p; exact p
      | stuck => rw [q2] at p; exact p
    | ret s => exact p
  | exc c p' => rw [q] at p; exact p
  | stuck => rw [q] at p; exact p
theorem hs_one (h1 : HS1 X W st asg f) : HS X W [st] asg f := ⟨pss_one h1.ps, h1.fix⟩

/-! ### the slots changed -/
section
variable {K : PySem.W.Frag} {mg : Str → Option Value} {F Gs Hs H : Hp} {σ : St} {ρ : Env}
theorem Slots.grow {fp : Nat → List Addr} {Hs' H' : Hp} (s : Slots K mg F Hs H σ ρ fp) (g : Grow Hs H Hs' H') : Slots K mg F Hs' H' σ ρ fp := by
  refine ⟨fun i s' e => ?_, fun i p hp => ?_, s.sep, s.nd⟩
  · obtain ⟨v, e1, o⟩ := s.own i s' e
    exact ⟨v, e1, o.mono g.s g.h⟩
  · obtain ⟨h1, h2, h3⟩ := s.free i p hp
    refine ⟨h1, ?_, ex_some g.h h3⟩
    cases q : Hs' p with
    | none => rfl
    | some o => exact absurd h2 (g.ap p (by rw [q]; simp) h3)
/-- slot i gets a value -/
theorem Slots.set {i : Nat} {s : S} {v : V} {fp' : List Addr} {fp : Nat → List Addr} (hlen : σ.length = ρ.length) (sl : Slots K mg F Hs H σ ρ fp) (o : Own K mg Hs H s v fp') (hf : ∀ p ∈ fp', F p = none ∧ Hs p = none) (ha : ∀ p ∈ fp', ∀ j, j ≠ i → p ∉ fp j) (nd : fp'.Nodup) :
    Slots K mg F Hs H (σ.set i (some v)) (ρ.set i (some s)) (fun j => if j = i then fp' else fp j) := by
  refine ⟨fun j s' e => ?_, fun j p hp => ?_, fun j k p h1 h2 => ?_, fun j => ?_⟩
  · by_cases hj : j = i
    · subst hj
      have hl : j < ρ.length := by
        have := (List.getElem?_eq_some_iff.mp e).1
        rwa [List.length_set] at this
      rw [List.getElem?_set_self hl] at e
      cases e
      refine ⟨v, List.getElem?_set_self (by rw [hlen]; exact hl), ?_⟩
      rw [if_pos rfl]; exact o
    · rw [List.getElem?_set_ne (Ne.symm hj)] at e
      obtain ⟨u, e1, q⟩ := sl.own j s' e
      refine ⟨u, by rw [List.getElem?_set_ne (Ne.symm hj)]; exact e1, ?_⟩
      rw [if_neg hj]; exact q
  · by_cases hj : j = i
    · rw [if_pos hj] at hp; exact ⟨(hf p hp).1, (hf p hp).2, o.there p hp⟩
    · rw [if_neg hj] at hp; exact sl.free j p hp
  · by_cases hj : j = i
    · rw [if_pos hj] at h1
      by_cases hk : k = i
      · rw [hj, hk]
      · rw [if_neg hk] at h2; exact absurd h2 (ha p h1 k hk)
    · rw [if_neg hj] at h1
      by_cases hk : k = i
      · rw [if_pos hk] at h2; exact absurd h1 (ha p h2 j hj)
      · rw [if_neg hk] at h2; exact sl.sep j k p h1 h2
  · show (if j = i then fp' else fp j).Nodup
    split
    · exact nd
    · exact sl.nd j
theorem Rep.setD {i : Nat} {d : D} {v : V} (r : Rep K mg F Gs Hs H σ ρ) (h : Is K Hs d v) : Rep K mg F Gs Hs H (σ.set i (some v)) (ρ.set i (some (.d d))) := by
  obtain ⟨fp, sl⟩ := r.sl
  exact ⟨by rw [List.length_set, List.length_set]; exact r.len, r.gr, _, sl.set r.len (fp' := []) ⟨rfl, h⟩ (fun _ h => nomatch h) (fun _ h => nomatch h) List.nodup_nil⟩
/-- .. a result -/
theorem Rep.setR {i : Nat} {s : S} {v : V} {H0 Hs0 : Hp} (r : Rep K mg F Gs Hs0 H0 σ ρ) (g : Grow Hs0 H0 Hs H) (h : Rs K mg H0 Hs H s v) : Rep K mg F Gs Hs H (σ.set i (some v)) (ρ.set i (some s)) := by
  obtain ⟨fp', o, f, n⟩ := h
  obtain ⟨fp0, sl0⟩ := r.sl
  refine ⟨by rw [List.length_set, List.length_set]; exact r.len, r.gr.trans g, _, (sl0.grow g).set r.len o (fun p hp => ⟨Evl.fresh_back r.gr.h (f p hp).1, (f p hp).2⟩) (fun p hp j hj hm => ?_) n⟩
  exact (sl0.free j p hm).2.2 (f p hp).1
/-- slot i forgotten -/
theorem Rep.drop {i : Nat} (r : Rep K mg F Gs Hs H σ ρ) : Rep K mg F Gs Hs H σ (ρ.set i none) := by
  obtain ⟨fp, sl⟩ := r.sl
  refine ⟨by rw [List.length_set]; exact r.len, r.gr, fp, fun j s' e => ?_, sl.free, sl.sep, sl.nd⟩
  by_cases hj : j = i
  · subst hj
    have hl : j < ρ.length := by
      have := (List.getElem?_eq_some_iff.mp e).1
      rwa [List.length_set] at this
    rw [List.getElem?_set_self hl] at e
    cases e
  · rw [List.getElem?_set_ne (Ne.symm hj)] at e
    exact sl.own j s' e
end
/-! ### assignments -/
def sAsg (i : Nat) (f : Env → Out D) : Env → Out Res := fun ρ => (f ρ).bind fun d => .ok (.next (ρ.set i (some (.d d))))
def sAsgE (i : Nat) (f : Env → Out S) : Env → Out Res := fun ρ => (f ρ).bind fun s => .ok (.next (ρ.set i (some s)))
theorem set_out {α : Type} {l : List α} {i j : Nat} {x : α} (h : j ∉ [i]) : (l.set i x)[j]? = l[j]? := List.getElem?_set_ne (by intro z; exact h (by simp [z]))
theorem bind_next {α : Type} {r : Out α} {k : α → Out Res} {ρ' : Env} (e : r.bind k = .ok (.next ρ')) : ∃ a, r = .ok a ∧ k a = .ok (.next ρ') := by
  cases r with
  | ok a => exact ⟨a, rfl, e⟩
  | exc c p => cases e
  | stuck => cases e
theorem fix_asg {α : Type} {i : Nat} {fo : Env → Out α} {k : α → Option S} : Fix [i] (fun ρ => (fo ρ).bind fun d => .ok (.next (ρ.set i (k d)))) := fun ρ ρ' e j hj => by
  obtain ⟨d, _, e⟩ := bind_next e
  cases e
  exact congrArg mq (set_out hj)
/-- an expression, then a statement's end -/
theorem postS_seq {α w : Type} {R : Rel α w} {K : PySem.W.Frag} {mg : Str → Option Value} {F Gs Hs H : Hp} {σ : St} {ρ : Env} {r : Out α} {k : α → Out Res} {D : Ends} (rep : Rep K mg F Gs Hs H σ ρ) (h : PostS K mg W asg F Gs Hs σ (r.bind k) D) :
    Post R mg W σ Hs H r (fun v H1 => ∃ Hs1 a, Grow Hs H Hs1 H1 ∧ R H Hs1 H1 a v ∧ PostS K mg W asg F Gs Hs1 σ (k a) D) := by
  cases r with
  | ok a => exact fun v Hs2 H2 g2 hr => ⟨Hs2, a, g2, hr, PostS.mono h g2.s fun _ _ => rfl⟩
  | exc c p => exact fun cls d Hs2 H2 g2 hx => h cls d σ Hs2 H2 (rep.gr.trans g2) hx
  | stuck => exact h
theorem asg_read {i : Nat} {f : Env → Out D} {D : Ends} {σ : St} {H : Hp} (h : tS X.K X.mg W [i] (sAsg i f) D σ H) : tG (RD X.K) X.K X.mg W f σ H (fun x H1 => gName i x σ H1 D.nx) := by
  obtain ⟨F, Gs, Hs, ρ, r, p⟩ := h
  exact ⟨F, Gs, Hs, ρ, r, (postS_seq r p).imp fun v H1 ⟨Hs1, d, g1, h1, p1⟩ => p1 _ Hs1 H1 ((r.grow g1).setD h1) (Ex.refl _) fun j hj => set_out hj⟩
theorem asgE_read {i : Nat} {f : Env → Out S} {D : Ends} {σ : St} {H : Hp} (h : tS X.K X.mg W [i] (sAsgE i f) D σ H) : tG (RE X.K X.mg) X.K X.mg W f σ H (fun x H1 => gName i x σ H1 D.nx) := by
  obtain ⟨F, Gs, Hs, ρ, r, p⟩ := h
  exact ⟨F, Gs, Hs, ρ, r, (postS_seq r p).imp fun v H1 ⟨Hs1, d, g1, h1, p1⟩ => p1 _ Hs1 H1 (r.setR g1 h1) (Ex.refl _) fun j hj => set_out hj⟩
variable {x : Str} {pos' : Pos}
theorem hs_asg (i : Nat) {f : Env → Out D} (hN : X.N.Nodup) (hi : X.N[i]? = some x) (hx : Loc X.env.scope x) (he : HD X W e f) (hs : swapsWith e (some (.Name x pos')) pos.line X.env = pure false := by rfl) (hf : X.fn x = true ∨ X.env.scope.names.lookup x = some .local := by first | exact .inl rfl | exact .inr rfl | assumption) :
    HS1 X W (.Assign [.Name x pos'] e pos) [i] (sAsg i f) := ⟨PS.imp (ps_set hN hi hx he.pe hs hf) fun D σ H h => asg_read h, fix_asg⟩
theorem hs_asgE (i : Nat) {f : Env → Out S} (hN : X.N.Nodup) (hi : X.N[i]? = some x) (hx : Loc X.env.scope x) (he : HE X W e f) (hs : swapsWith e (some (.Name x pos')) pos.line X.env = pure false := by rfl) (hf : X.fn x = true ∨ X.env.scope.names.lookup x = some .local := by first | exact .inl rfl | exact .inr rfl | assumption) :
    HS1 X W (.Assign [.Name x pos'] e pos) [i] (sAsgE i f) := ⟨PS.imp (ps_set hN hi hx he.pe hs hf) fun D σ H h => asgE_read h, fix_asg⟩
/-! ### return, an expression, if -/
def sRet (f : Env → Out S) : Env → Out Res := fun ρ => (f ρ).bind fun s => .ok (.ret s)
def sRetN : Env → Out Res := fun _ => .ok (.ret (.d .non))
def sDrop {α : Type} (f : Env → Out α) : Env → Out Res := fun ρ => (f ρ).bind fun _ => .ok (.next ρ)
def sIf (t : Env → Out Bool) (f g : Env → Out Res) : Env → Out Res := fun ρ => (t ρ).bind fun b => if b = true then f ρ else g ρ
theorem hs_ret {f : Env → Out S} (he : HE X W e f) : HS1 X W (.Return (some e) pos) [] (sRet f) :=
  ⟨PS.imp (ps_ret he.pe) fun D σ H ⟨F, Gs, Hs, ρ, r, p⟩ => ⟨F, Gs, Hs, ρ, r, (postS_seq r p).imp fun v H1 ⟨Hs1, d, g1, h1, p1⟩ => p1 v Hs1 H1 (r.gr.trans g1) (anti_E _ _ _ _ _ _ r.gr.h h1)⟩, fun ρ ρ' e => by
    obtain ⟨_, _, e⟩ := bind_next e
    cases e⟩
theorem hs_retN : HS1 X W (.Return none pos) [] sRetN := ⟨PS.imp ps_retN fun D σ H ⟨F, Gs, Hs, ρ, r, p⟩ => p .non Hs H r.gr (Rs.d isN), fun ρ ρ' e => by cases e⟩
/-- an own list is handed back -/
def sRetV (i : Nat) : Env → Out Res := fun ρ => match ρ[i]? with
  | some (some s) => .ok (.ret s)
  | _ => .stuck
theorem hs_retV (i : Nat) {p1 : Pos} (hN : X.N[i]? = some x := by rfl) (hv : Vis X.env.scope x := by first | exact Or.inl rfl | exact Or.inr (Or.inl rfl) | exact Or.inr (Or.inr rfl)) (hd : (x == ("__debug__" : Str)) = false := by decide)
    (hcd : (x == ("__classdict__" : Str)) = false := by decide) : HS1 X W (.Return (some (.Name x p1)) pos) [] (sRetV i) :=
  ⟨PS.imp (ps_ret (pe_var hN hv hd hcd)) fun D σ H ⟨F, Gs, Hs, ρ, r, p⟩ => by
    unfold sRetV at p
    split at p
    · rename_i s e
      obtain ⟨fp, sl⟩ := r.sl
      obtain ⟨v, e1, o⟩ := sl.own i s e
      exact ⟨v, e1, p v Hs H r.gr ⟨fp i, o, fun q hq => ⟨(sl.free i q hq).1, (sl.free i q hq).2.1⟩, sl.nd i⟩⟩
    · exact p.elim, fun ρ ρ' e => by
    unfold sRetV at e
    split at e <;> cases e⟩
theorem hs_expr {f : Env → Out S} (he : HE X W e f) (hs : swapsWith e none pos.line X.env = pure false := by rfl) : HS1 X W (.Expr e pos) [] (sDrop f) :=
  ⟨PS.imp (ps_expr he.pe hs) fun D σ H ⟨F, Gs, Hs, ρ, r, p⟩ => ⟨F, Gs, Hs, ρ, r, (postS_seq r p).imp fun v H1 ⟨Hs1, d, g1, h1, p1⟩ => p1 σ Hs1 H1 (r.grow g1) (Ex.refl _) fun _ _ => rfl⟩, fun ρ ρ' e i _ => by
    obtain ⟨_, _, e⟩ := bind_next e
    cases e; rfl⟩
theorem hs_exprD {f : Env → Out D} (he : HD X W e f) (hs : swapsWith e none pos.line X.env = pure false := by rfl) : HS1 X W (.Expr e pos) [] (sDrop f) :=
  ⟨PS.imp (ps_expr he.pe hs) fun D σ H ⟨F, Gs, Hs, ρ, r, p⟩ => ⟨F, Gs, Hs, ρ, r, (postS_seq r p).imp fun v H1 ⟨Hs1, d, g1, h1, p1⟩ => p1 σ Hs1 H1 (r.grow g1) (Ex.refl _) fun _ _ => rfl⟩, fun ρ ρ' e i _ => by
    obtain ⟨_, _, e⟩ := bind_next e
    cases e; rfl⟩
theorem PostS.wider {K : PySem.W.Frag} {mg : Str → Option Value} {F Gs Hs : Hp} {σ : St} {r : Out Res} {D : Ends} (h : PostS K mg W asg F Gs Hs σ r D) (k : ∀ i, i ∈ asg' → i ∈ asg) : PostS K mg W asg' F Gs Hs σ r D := by
  cases r with
  | ok r =>
    cases r with
    | next ρ => exact fun σ2 Hs2 H2 r2 e2 k2 => h σ2 Hs2 H2 r2 e2 fun i hi => k2 i fun z => hi (k i z)
    | ret s => exact h
  | exc c p => exact h
  | stuck => exact h
theorem hs_if {t : Env → Out Bool} {as bs : List Stmt} (hc : HT X W c t) (ha : HS X W as asg f) (hb : HS X W bs asg' g) : HS1 X W (.If c as bs pos) (asg ++ asg') (sIf t f g) :=
  ⟨PS.imp (ps_if hc.pt ha.pss hb.pss) fun D σ H ⟨F, Gs, Hs, ρ, r, p⟩ => ⟨F, Gs, Hs, ρ, r, (postS_seq r p).imp fun v H1 ⟨Hs1, d, g1, h1, p1⟩ => by
    obtain rfl : v = d := h1
    cases v with
    | true => rw [if_pos rfl]; rw [if_pos rfl] at p1; exact ⟨F, Gs, Hs1, ρ, r.grow g1, p1.wider fun i hi => List.mem_append_left _ hi⟩
    | false => rw [if_neg Bool.false_ne_true]; rw [if_neg Bool.false_ne_true] at p1; exact ⟨F, Gs, Hs1, ρ, r.grow g1, p1.wider fun i hi => List.mem_append_right _ hi⟩⟩, fun ρ ρ' e i hi => by
    obtain ⟨k, _, e⟩ := bind_next e
    cases k with
    | true => rw [if_pos rfl] at e; exact ha.fix ρ ρ' e i fun z => hi (List.mem_append_left _ z)
    | false => rw [if_neg Bool.false_ne_true] at e; exact hb.fix ρ ρ' e i fun z => hi (List.mem_append_right _ z)⟩
/-! ### ghosts -/
theorem hs_pre {vs : List Nat} (k : Env → Env) (hk : ∀ (F Gs Hs H : Hp) (σ : St) (ρ : Env), Rep X.K X.mg F Gs Hs H σ ρ → ∃ Hs', Ex Hs Hs' ∧ Rep X.K X.mg F Gs Hs' H σ (k ρ)) (hx : ∀ ρ i, i ∉ vs → (k ρ)[i]? = ρ[i]?) (h : HS X W sts asg f) : HS X W sts (vs ++ asg) (fun ρ => f (k ρ)) :=
  ⟨PSs.imp h.pss fun D σ H ⟨F, Gs, Hs, ρ, r, p⟩ => by
    obtain ⟨Hs', e, r'⟩ := hk _ _ _ _ _ _ r
    exact ⟨F, Gs, Hs', k ρ, r', (PostS.mono p e fun _ _ => rfl).wider fun i hi => List.mem_append_right _ hi⟩, fun ρ ρ' e i hi => (h.fix _ _ e i fun z => hi (List.mem_append_right _ z)).trans (congrArg mq (hx ρ i fun z => hi (List.mem_append_left _ z)))⟩
def wipeE (ρ : Env) : List Nat → Env
  | [] => ρ
  | i :: is => (wipeE ρ is).set i none
theorem wipeE_out {i : Nat} : ∀ {vs : List Nat} {ρ : Env}, i ∉ vs → (wipeE ρ vs)[i]? = ρ[i]?
  | [], _, _ => rfl
  | v :: vs, ρ, h => by
    show ((wipeE ρ vs).set v none)[i]? = ρ[i]?
    rw [List.getElem?_set_ne (fun z => h (by simp [z])), wipeE_out fun z => h (List.mem_cons_of_mem _ z)]
theorem Rep.wipe {K : PySem.W.Frag} {mg : Str → Option Value} {F Gs Hs H : Hp} {σ : St} {ρ : Env} (r : Rep K mg F Gs Hs H σ ρ) : ∀ vs, Rep K mg F Gs Hs H σ (wipeE ρ vs)
  | [] => r
  | v :: vs => (r.wipe vs).drop
theorem hs_wipe (vs : List Nat) (h : HS X W sts asg f) : HS X W sts (vs ++ asg) (fun ρ => f (wipeE ρ vs)) := hs_pre (fun ρ => wipeE ρ vs) (fun F Gs Hs H σ ρ r => ⟨Hs, Ex.refl _, r.wipe vs⟩) (fun ρ i hi => wipeE_out hi) h
/-- an own list is own no longer -/
def frzE (ρ : Env) (i : Nat) : Env := match ρ[i]? with
  | some (some s) => match s.fz with
    | .ok d => ρ.set i (some (.d d))
    | _ => ρ
  | _ => ρ
theorem Rep.frz {K : PySem.W.Frag} {mg : Str → Option Value} {F Gs Hs H : Hp} {σ : St} {ρ : Env} (r : Rep K mg F Gs Hs H σ ρ) (i : Nat) : ∃ Hs', Ex Hs Hs' ∧ Rep K mg F Gs Hs' H σ (frzE ρ i) := by
  unfold frzE
  split
  · rename_i s e
    split
    · rename_i d z
      obtain ⟨fp, sl⟩ := r.sl
      obtain ⟨v, e1, o⟩ := sl.own i s e
      have hf : ∀ p ∈ fp i, Hs p = none := fun p hp => (sl.free i p hp).2.1
      have hx : Ex Hs (addH Hs H (fp i)) := addH_ex hf
      refine ⟨addH Hs H (fp i), hx, by rw [List.length_set]; exact r.len, ⟨r.gr.h, r.gr.s.trans hx, addH_sh r.gr.sh, fun a h1 h2 => ?_⟩, fun j => if j = i then [] else fp j, fun j s' e2 => ?_, fun j p hp => ?_, fun j k p h1 h2 => ?_, fun j => ?_⟩
      · by_cases q : a ∈ fp i
        · exact absurd (sl.free i a q).1 h2
        · unfold addH at h1; rw [if_neg q] at h1; exact r.gr.ap a h1 h2
      · by_cases hj : j = i
        · subst hj
          have hl : j < ρ.length := (List.getElem?_eq_some_iff.mp e).1
          rw [List.getElem?_set_self hl] at e2
          cases e2
          refine ⟨v, e1, ?_⟩
          rw [if_pos rfl]
          exact ⟨rfl, own_fz o z hf⟩
        · rw [List.getElem?_set_ne (Ne.symm hj)] at e2
          obtain ⟨u, e3, q⟩ := sl.own j s' e2
          refine ⟨u, e3, ?_⟩
          rw [if_neg hj]
          exact q.mono hx (Ex.refl _)
      · by_cases hj : j = i
        · rw [if_pos hj] at hp; cases hp
        · rw [if_neg hj] at hp
          obtain ⟨h1, h2, h3⟩ := sl.free j p hp
          refine ⟨h1, ?_, h3⟩
          unfold addH
          rw [if_neg fun z => hj (sl.sep j i p hp z)]
          exact h2
      · by_cases hj : j = i
        · rw [if_pos hj] at h1; cases h1
        · rw [if_neg hj] at h1
          by_cases hk : k = i
          · rw [if_pos hk] at h2; cases h2
          · rw [if_neg hk] at h2; exact sl.sep j k p h1 h2
      · show (if j = i then [] else fp j).Nodup
        split
        · exact List.nodup_nil
        · exact sl.nd j
    · exact ⟨Hs, Ex.refl _, r⟩
  · exact ⟨Hs, Ex.refl _, r⟩
theorem frzE_out {i j : Nat} {ρ : Env} (h : j ∉ [i]) : (frzE ρ i)[j]? = ρ[j]? := by
  unfold frzE
  split
  · split
    · exact set_out h
    · rfl
  · rfl
theorem hs_frz (i : Nat) (h : HS X W sts asg f) : HS X W sts ([i] ++ asg) (fun ρ => f (frzE ρ i)) := hs_pre (fun ρ => frzE ρ i) (fun F Gs Hs H σ ρ r => r.frz i) (fun ρ j hj => frzE_out hj) h
end
end G

set_option Elab.async false
set_option linter.all false
set_option maxRecDepth 100000
set_option maxHeartbeats 2000000
namespace G
open PySem PySem.Spec PyProof.Rows L2
open Evl (Ex ex_l ex_t ex_rd)

/-! ### defs -/
/-- the promise of a def that computes m -/
def spD (K : PySem.W.Frag) (mg : Str → Option Value) (n : Nat) (m : List S → Out S) : Sp := fun vs H Q E => ∃ Hs ss, Ex Hs H ∧ Args K mg Hs ss vs ∧ ss.length = n ∧ Post (RE K mg) mg (fun c d _ H' => E c d H') [] Hs H (m ss) Q
/-- a body's result -/
def endD : Out Res → Out S
  | .ok (.next _) => .ok (.d .non)
  | .ok (.ret s) => .ok s
  | .exc c p => .exc c p
  | .stuck => .stuck
def startE (n : Nat) (ss : List S) : Env := ss.map some ++ List.replicate (n - ss.length) none
def runD (n : Nat) (f : Env → Out Res) (ss : List S) : Out S := endD (f (startE n ss))

theorem own_shared {K : PySem.W.Frag} {mg : Str → Option Value} {Hs H : Hp} {s : S} {v : V} (o : Own K mg Hs Hs s v []) (e : Ex Hs H) : Own K mg Hs H s v [] := o.mono (Ex.refl _) e
theorem rep_start {K : PySem.W.Frag} {mg : Str → Option Value} {Hs H : Hp} {N : List Str} {ss : List S} {vs : List V} (e : Ex Hs H) (ha : Args K mg Hs ss vs) : Rep K mg H Hs Hs H (start N vs) (startE N.length ss) := by
  have hl := ha.len
  refine ⟨?_, ⟨Ex.refl _, Ex.refl _, e, fun _ h _ => h⟩, fun _ => [], fun i s q => ?_, (fun _ _ h => nomatch h), (fun _ _ _ h => nomatch h), fun _ => List.nodup_nil⟩
  · unfold L2.start startE
    rw [List.length_append, List.length_append, List.length_map, List.length_map, List.length_replicate, List.length_replicate, hl]
  · unfold startE at q
    unfold L2.start
    by_cases hi : i < ss.length
    · rw [List.getElem?_append_left (by rw [List.length_map]; exact hi), List.getElem?_map] at q
      cases z : ss[i]? with
      | none => rw [z] at q; cases q
      | some s' =>
        rw [z] at q
        have q : some (some s') = some (some s) := q
        cases q
        obtain ⟨v, e1, o⟩ := ha.get i z
        refine ⟨v, ?_, own_shared o e⟩
        rw [List.getElem?_append_left (by rw [List.length_map, hl]; exact hi), List.getElem?_map, e1]; rfl
    · rw [List.getElem?_append_right (by rw [List.length_map]; omega)] at q
      have := List.mem_of_getElem? q
      rw [List.mem_replicate] at this
      exact nomatch this.2
section
variable {P : Program} {w : World} {K : PySem.W.Frag} {mg : Str → Option Value} {base : Heap}
/-- THE RULE for a def -/
theorem okD {x qual : Str} {st : Stmt} {f : Addr} {fd : FuncData} {N ps : List Str} {k : Nat} {den : Env → Out Res} {asg : List Nat} (F : Fun K x qual st f fd) (S' : FnScope N ps (defScope st))
    (hb : ∀ (cdv : Value) (A : Around) (outer : List PySem.Env) (s : Shared) (H : Hp) (E : XK), Takes (cxOf (L2.CX P w) P w K mg base N qual (defScope st) f cdv A outer s H E) (fun c d _ H' => E c d H') →
      PassesOwn (model P w) (A.deeper (envOfC qual (defScope st) s.heap.objs.size f cdv)) (envOfC qual (defScope st) s.heap.objs.size f cdv) (cxOf (L2.CX P w) P w K mg base N qual (defScope st) f cdv A outer s H E).xe →
      Room k (A.deeper (envOfC qual (defScope st) s.heap.objs.size f cdv)) → HS (cxOf (L2.CX P w) P w K mg base N qual (defScope st) f cdv A outer s H E) (fun c d _ H' => E c d H') (defBody st) asg den) :
    FnOk P w K mg base (L2.CX P w) (k + 1) f fd ps (spD K mg ps.length (runD N.length den)) := by
  refine F.okX S' (fun vs H Q E h => ?_) (fun cdv A outer s H vs Q E hr h => ?_)
  · obtain ⟨Hs, ss, _, ha, hl, _⟩ := h
    rw [ha.len, hl]
  · obtain ⟨Hs, ss, e, ha, hl, p⟩ := h
    refine ⟨_, (hb cdv A outer s H E (takes_of rfl rfl rfl rfl) (passes_of rfl) hr).pss, ?_⟩
    refine ⟨H, Hs, Hs, startE N.length ss, rep_start e ha, ?_⟩
    unfold runD at p
    cases q : den (startE N.length ss) with
    | ok r =>
      rw [q] at p
      cases r with
      | next ρ => exact fun σ' Hs' H' r' _ _ => p .non Hs' H' r'.gr (Rs.d isN)
      | ret s => exact fun v Hs' H' g h => p v Hs' H' g h
    | exc c p' => rw [q] at p; exact fun cls d σ' Hs' H' g h => p cls d Hs' H' g h
    | stuck => rw [q] at p; exact p
end
/-- a def that may be called -/
def Callee (P : Program) (w : World) (K : PySem.W.Frag) (mg : Str → Option Value) (base : Heap) (x : Str) (k n : Nat) (m : List S → Out S) : Prop :=
  ∃ f fd ps, FnOk P w K mg base (L2.CX P w) k f fd ps (spD K mg n m) ∧ mg x = some (.ref f) ∧ PySem.W.keepIn K (.ref f) = true ∧ Binds K fd ps [] ∧ ps.length = n
section
variable {X : Cx} {W : WX} {e : Expr} {es : List Expr} {pos p1 : Pos} {x : Str} {k n : Nat} {m : List S → Out S}
/-- a call -/
theorem he_call {g : Env → Out (List S)} (c : Callee X.prog X.w X.K X.mg X.base x k n m) (hr : Room k X.A) (tk : Takes X W)
    (ha : HAS X W (e :: es) g) (hg : Gl X x := by rfl) (hdb : (x == ("__debug__" : Str)) = false := by decide) (hs : starEach (e :: es) X.env = (false, eval e X.env) :: starEach es X.env := by rfl) (hpl : (backTo pos (starEach es X.env)).any (·.1) = false := by rfl) :
    HE X W (.Call (.Name x p1) (e :: es) [] pos) (dA (fun ss => guard' (ss.length = n) (m ss)) g) := by
  obtain ⟨f, fd, ps, F, hm, hk, hb, hn⟩ := c
  exact ⟨PE.imp (pe_callS F hr hg hm hk hb (fun σ => passAt tk σ) ha.pa hdb hs hpl) fun σ H Q ⟨F', Gs, Hs, ρ, r, p⟩ => ⟨F', Gs, Hs, ρ, r, (Post.seq anti_E p).imp fun vs H1 ⟨Hs1, ss, g1, h1, p1⟩ => by
    obtain ⟨hl, p1⟩ := guard_ok p1
    refine ⟨Hs1, ss, g1.sh, h1, hl, ?_⟩
    cases q : m ss with
    | ok s => rw [q] at p1; exact p1
    | exc c p' => rw [q] at p1; exact p1
    | stuck => rw [q] at p1; exact p1⟩⟩
/-- .. its arguments borrowed, a scalar handed back -/
def scS : S → Out D
  | .d d => scD d
  | _ => .stuck
theorem hd_callS {g : Env → Out (List S)} (c : Callee X.prog X.w X.K X.mg X.base x k n m) (hr : Room k X.A) (tk : Takes X W)
    (ha : HASb X W (e :: es) g) (hg : Gl X x := by rfl) (hdb : (x == ("__debug__" : Str)) = false := by decide) (hs : starEach (e :: es) X.env = (false, eval e X.env) :: starEach es X.env := by rfl) (hpl : (backTo pos (starEach es X.env)).any (·.1) = false := by rfl) :
    HD X W (.Call (.Name x p1) (e :: es) [] pos) (dA (fun ss => guard' (ss.length = n) ((m ss).bind scS)) g) := by
  obtain ⟨f, fd, ps, F, hm, hk, hb, hn⟩ := c
  exact ⟨PE.imp (pe_callS F hr hg hm hk hb (fun σ => passAt tk σ) ha.pa hdb hs hpl) fun σ H Q ⟨F', Gs, Hs, ρ, r, p⟩ => ⟨F', Gs, Hs, ρ, r, (Post.seq anti_D p).imp fun vs H1 ⟨Hs1, ss, g1, h1, p1⟩ => by
    obtain ⟨hl, p1⟩ := guard_ok p1
    refine ⟨H1, ss, Ex.refl _, h1, hl, ?_⟩
    cases q : m ss with
    | ok s =>
      rw [q] at p1
      intro v Hs' H' g' hs'
      cases s with
      | d d =>
        have p1 : Post (RD X.K) X.mg W σ Hs1 H1 (scD d) Q := p1
        have h : Is _ _ _ _ := hs'.is
        have gw : Grow Hs1 H1 Hs1 H' := Grow.whole g1.sh g'.h
        cases d with
        | non => simp only [Is] at h; subst h; exact p1.later gw isN
        | bl b => simp only [Is] at h; subst h; exact p1.later gw isB
        | int b => simp only [Is] at h; subst h; exact p1.later gw isI
        | str b => simp only [Is] at h; subst h; exact p1.later gw isS
        | _ => exact p1.elim
      | _ => exact p1.elim
    | exc c p' =>
      rw [q] at p1
      exact fun cls d Hs' H' g' h' => p1 cls d Hs1 H' (Grow.whole g1.sh g'.h) h'
    | stuck => rw [q] at p1; exact p1⟩⟩
end
end G

set_option Elab.async false
set_option linter.all false
set_option maxRecDepth 100000
set_option maxHeartbeats 2000000
namespace G
open PySem PySem.Spec L2
open Evl (Ex ex_l ex_t ex_rd)

/-! ### what is walked -/
def ItD (K : PySem.W.Frag) (Hb Hs : Hp) (ds : List D) (J : It) : Prop := ∀ (i : Nat) (H : Hp), Ex Hb H → (∀ d, ds[i]? = some d → J.go i H ∧ ∀ x H', J.yld i H x H' → H' = H ∧ Is K Hs d x) ∧ (ds[i]? = none → J.stop i H)
def RI (K : PySem.W.Frag) : Rel (List D) It := fun _ Hs' _ ds J => ItD K Hs' Hs' ds J
def RIb (K : PySem.W.Frag) : Rel (List D) It := fun _ Hs' H' ds J => ItD K H' Hs' ds J
theorem anti_I {K} : Anti (RI K) := fun _ _ _ _ _ _ _ h => h
theorem anti_Ib {K} : Anti (RIb K) := fun _ _ _ _ _ _ _ h => h
structure HI (X : Cx) (W : WX) (tg iter : Expr) (f : Env → Out (List D)) : Prop where
  pi : PI X tg iter (tG (RI X.K) X.K X.mg W f)
structure HIb (X : Cx) (W : WX) (tg iter : Expr) (f : Env → Out (List D)) : Prop where
  pi : PI X tg iter (tG (RIb X.K) X.K X.mg W f)
section
variable {X : Cx} {W : WX} {tg iter e a b c : Expr} {es : List Expr} {pos p1 : Pos}
theorem PI.imp {t t' : TI} (h : PI X tg iter t) (k : ∀ σ H Q, t' σ H Q → t σ H Q) : PI X tg iter t' := ⟨fun pins s σ H Q I q => h.run pins s σ H Q I (k _ _ _ q)⟩
theorem hib_of {f : Env → Out (List D)} (h : HI X W tg iter f) : HIb X W tg iter f := ⟨PI.imp h.pi fun σ H Q ⟨F, Gs, Hs, ρ, r, p⟩ => ⟨F, Gs, Hs, ρ, r, by
  cases q : f ρ with
  | ok d => rw [q] at p; exact fun v Hs' H' g hr => p v Hs' H' g fun i H2 e => hr i H2 (g.sh.trans e)
  | exc c p' => rw [q] at p; exact p
  | stuck => rw [q] at p; exact p⟩⟩
def itL : D → Out (List D)
  | .lst ds => .ok ds
  | _ => .stuck
def itT : D → Out (List D)
  | .tup ds => .ok ds
  | _ => .stuck
theorem itd_list {K : PySem.W.Frag} {Hb Hs : Hp} {ds : List D} {vs : List V} {t : Addr} (hb : Hb t = some (.lst vs)) (hv : IsAll K Hs ds vs) : ItD K Hb Hs ds (Itl K t) := fun i H e => ⟨fun d hd => by
  obtain ⟨v, e1, h1⟩ := hv.get i hd
  refine ⟨⟨vs, v, SqL.of (e _ _ hb), e1⟩, fun x H' ⟨e2, h2⟩ => ⟨e2, ?_⟩⟩
  have := h2 vs (SqL.of (e _ _ hb))
  rw [e1] at this; cases this; exact h1, fun hn => ⟨vs, SqL.of (e _ _ hb), by
  have := hv.none_of hn
  exact List.getElem?_eq_none_iff.mp this⟩⟩
theorem hi_list {f : Env → Out D} (h : HD X W e f) : HI X W tg e (d1 itL f) := ⟨PI.imp (pi_list h.pe) fun σ H Q ⟨F, Gs, Hs, ρ, r, p⟩ => ⟨F, Gs, Hs, ρ, r, (Post.seq anti_I p).imp fun v H1 ⟨Hs1, d, g1, h1, p1⟩ => by
  have h1 : Is _ _ _ _ := h1
  cases d with
  | lst ds =>
    simp only [Is] at h1
    obtain ⟨t, vs, rfl, ht, hv⟩ := h1
    exact ⟨t, rfl, ⟨vs, SqL.of (g1.sh _ _ ht)⟩, p1.now g1.sh (itd_list ht hv)⟩
  | _ => exact p1.elim⟩⟩
theorem hi_tup {f : Env → Out D} (h : HD X W e f) : HI X W tg e (d1 itT f) := ⟨PI.imp (pi_tup h.pe) fun σ H Q ⟨F, Gs, Hs, ρ, r, p⟩ => ⟨F, Gs, Hs, ρ, r, (Post.seq anti_I p).imp fun v H1 ⟨Hs1, d, g1, h1, p1⟩ => by
  have h1 : Is _ _ _ _ := h1
  cases d with
  | tup ds =>
    simp only [Is] at h1
    obtain ⟨t, vs, rfl, ht, hv⟩ := h1
    refine ⟨t, rfl, ⟨vs, ex_t g1.sh ht⟩, p1.now g1.sh fun i H e => ⟨fun d hd => ?_, fun hn => ⟨vs, ex_t e ht, ?_⟩⟩⟩
    · obtain ⟨v, e1, h1⟩ := hv.get i hd
      refine ⟨⟨vs, v, ex_t e ht, e1⟩, fun x H' ⟨e2, h2⟩ => ⟨e2, ?_⟩⟩
      have := h2 vs (ex_t e ht)
      rw [e1] at this; cases this; exact h1
    · exact List.getElem?_eq_none_iff.mp (hv.none_of hn)
  | _ => exact p1.elim⟩⟩
/-- an own list, in a comprehension -/
def dOit (i : Nat) : Env → Out (List D) := fun ρ => match ρ[i]? with
  | some (some (.l xs)) => .ok xs
  | some (some (.d (.lst xs))) => .ok xs
  | _ => .stuck
theorem hib_own (i : Nat) {x : Str} (hN : X.N[i]? = some x := by rfl) (hv : Vis X.env.scope x := by first | exact Or.inl rfl | exact Or.inr (Or.inl rfl) | exact Or.inr (Or.inr rfl)) (hd : (x == ("__debug__" : Str)) = false := by decide)
    (hcd : (x == ("__classdict__" : Str)) = false := by decide) : HIb X W tg (.Name x pos) (dOit i) := ⟨PI.imp (pi_list (pe_var hN hv hd hcd)) fun σ H Q ⟨F, Gs, Hs, ρ, r, p⟩ => by
  obtain ⟨fp, sl⟩ := r.sl
  unfold dOit at p
  split at p
  · rename_i xs e
    obtain ⟨v, e1, q, vs, rfl, e3, h1, h2⟩ := sl.own i _ e
    exact ⟨.ref q, e1, q, rfl, ⟨vs, SqL.of h1⟩, p.now r.sh (itd_list h1 h2)⟩
  · rename_i xs e
    obtain ⟨v, e1, _, h1⟩ := sl.own i _ e
    simp only [Is] at h1
    obtain ⟨t, vs, rfl, ht, hv⟩ := h1
    exact ⟨.ref t, e1, t, rfl, ⟨vs, SqL.of (r.sh _ _ ht)⟩, p.now r.sh (itd_list (r.sh _ _ ht) hv)⟩
  · exact p.elim⟩
def rngL (lo : Int) (n : Nat) : List D := (List.range n).map fun i => D.int (lo + (i : Nat))
theorem rngL_get {lo : Int} {n i : Nat} {d : D} (h : (rngL lo n)[i]? = some d) : i < n ∧ d = .int (lo + i) := by
  unfold rngL at h
  rw [List.getElem?_map] at h
  by_cases hi : i < n
  · rw [List.getElem?_range hi] at h; cases h; exact ⟨hi, rfl⟩
  · rw [List.getElem?_eq_none (by rw [List.length_range]; omega)] at h; cases h
theorem rngL_none {lo : Int} {n i : Nat} (h : (rngL lo n)[i]? = none) : n ≤ i := by
  have := List.getElem?_eq_none_iff.mp h
  unfold rngL at this
  rw [List.length_map, List.length_range] at this
  exact this
theorem itd_rng {K : PySem.W.Frag} {Hb Hs : Hp} {lo : Int} {n : Nat} : ItD K Hb Hs (rngL lo n) (Itr lo n) := fun i H _ => ⟨fun d hd => by
  obtain ⟨h1, rfl⟩ := rngL_get hd
  exact ⟨h1, fun x H' ⟨e1, e2⟩ => ⟨e1, by rw [e2]; exact isI⟩⟩, fun hn => rngL_none hn⟩
def rng1 : List D → Out (List D)
  | [.int j] => guard' (-1000000000 ≤ j ∧ j ≤ 1000000000) (.ok (rngL 0 j.toNat))
  | _ => .stuck
def rng2 : List D → Out (List D)
  | [.int i, .int j] => guard' ((-1000000000 ≤ i ∧ i ≤ 1000000000) ∧ -1000000000 ≤ j ∧ j ≤ 1000000000) (.ok (rngL i (j - i).toNat))
  | _ => .stuck
theorem hi_rng1 {f : Env → Out (List D)} (hm : X.mg "range" = none) (h : HA X W [e] f) (hg : Gl X "range" := by rfl) (hs : starEach [e] X.env = [(false, eval e X.env)] := by rfl) : HI X W tg (.Call (.Name "range" p1) [e] [] pos) (dA rng1 f) := ⟨PI.imp (pi_range1 hg hm h.pa hs) fun σ H Q ⟨F, Gs, Hs, ρ, r, p⟩ => ⟨F, Gs, Hs, ρ, r, (Post.seq anti_I p).imp fun vs H1 ⟨Hs1, ds, g1, h1, p1⟩ => by
  unfold rng1 at p1
  split at p1
  · rename_i j
    obtain ⟨⟨k1, k2⟩, p1⟩ := guard_ok p1
    obtain ⟨v, e1, h1⟩ := isAll1 (show IsAll _ _ _ _ from h1)
    simp only [Is] at h1
    subst h1
    exact ⟨j, e1, by omega, by omega, p1.now g1.sh itd_rng⟩
  · exact p1.elim⟩⟩
theorem hi_rng2 {e2 : Expr} {f : Env → Out (List D)} (hm : X.mg "range" = none) (h : HA X W [e, e2] f) (hg : Gl X "range" := by rfl) (hs : starEach [e, e2] X.env = [(false, eval e X.env), (false, eval e2 X.env)] := by rfl) (hs2 : starEach [e2] X.env = [(false, eval e2 X.env)] := by rfl) : HI X W tg (.Call (.Name "range" p1) [e, e2] [] pos) (dA rng2 f) := ⟨PI.imp (pi_range2 hg hm h.pa hs hs2) fun σ H Q ⟨F, Gs, Hs, ρ, r, p⟩ => ⟨F, Gs, Hs, ρ, r, (Post.seq anti_I p).imp fun vs H1 ⟨Hs1, ds, g1, h1, p1⟩ => by
  unfold rng2 at p1
  split at p1
  · rename_i i j
    obtain ⟨⟨⟨k1, k2⟩, k3, k4⟩, p1⟩ := guard_ok p1
    obtain ⟨v, u, e1, h1, h2⟩ := isAll2 (show IsAll _ _ _ _ from h1)
    simp only [Is] at h1 h2
    subst h1; subst h2
    exact ⟨i, j, e1, ⟨by omega, by omega, by omega, by omega⟩, p1.now g1.sh itd_rng⟩
  · exact p1.elim⟩⟩

/-! ### targets -/
structure GRd (K : PySem.W.Frag) (mg : Str → Option Value) (g : TG) (asg : List Nat) (k : D → Env → Out Env) : Prop where
  rd : ∀ (F Gs Hs H : Hp) (σ : St) (ρ : Env) (d : D) (v : V) (Q : St → Hp → Prop) (ρ' : Env), Rep K mg F Gs Hs H σ ρ → Is K Hs d v → k d ρ = .ok ρ' → (∀ σ', Rep K mg F Gs Hs H σ' ρ' → (∀ i, i ∉ asg → σ'[i]? = σ[i]?) → Q σ' H) → g v σ H Q
  fix : ∀ d ρ ρ', k d ρ = .ok ρ' → ∀ i, i ∉ asg → ρ'[i]? = ρ[i]?
  exc : ∀ d ρ c p, k d ρ ≠ .exc c p
  len : ∀ d ρ ρ', k d ρ = .ok ρ' → ρ'.length = ρ.length
structure HG (X : Cx) (tg : Expr) (g : TG) (asg : List Nat) (k : D → Env → Out Env) : Prop where
  pg : PG X tg g
  r : GRd X.K X.mg g asg k
variable {x : Str}
def kName (i : Nat) : D → Env → Out Env := fun d ρ => .ok (ρ.set i (some (.d d)))
theorem grd_name {K : PySem.W.Frag} {mg : Str → Option Value} (i : Nat) : GRd K mg (gName i) [i] (kName i) :=
  ⟨fun F Gs Hs H σ ρ d v Q ρ' r h e q => by
    cases e
    exact q _ (r.setD h) fun j hj => set_out hj, fun d ρ ρ' e j hj => by cases e; exact set_out hj, (fun d ρ c p e => by cases e), fun d ρ ρ' e => by cases e; exact List.length_set⟩
theorem hg_name (i : Nat) (hN : X.N.Nodup) (hi : X.N[i]? = some x) (hx : Loc X.env.scope x) (hf : X.fn x = true ∨ X.env.scope.names.lookup x = some .local := by first | exact .inl rfl | exact .inr rfl | assumption) : HG X (.Name x pos) (gName i) [i] (kName i) := ⟨pg_name hN hi hx hf, grd_name i⟩
/-- several names -/
def gNames : List Nat → TGs
  | [] => gNil
  | i :: is => gCons (gName i) (gNames is)
def setAll : List Nat → List D → Env → Env
  | i :: is, d :: ds, ρ => setAll is ds (ρ.set i (some (.d d)))
  | _, _, ρ => ρ
theorem setAll_out {j : Nat} : ∀ {is : List Nat} {ds : List D} {ρ : Env}, j ∉ is → (setAll is ds ρ)[j]? = ρ[j]?
  | [], _, _, _ => by unfold setAll; rfl
  | _ :: _, [], _, _ => by unfold setAll; rfl
  | i :: is, d :: ds, ρ, h => by
    show (setAll is ds (ρ.set i (some (.d d))))[j]? = ρ[j]?
    rw [setAll_out fun z => h (List.mem_cons_of_mem _ z), List.getElem?_set_ne fun z => h (by simp [z])]
theorem setAll_len : ∀ {is : List Nat} {ds : List D} {ρ : Env}, (setAll is ds ρ).length = ρ.length
  | [], _, _ => by unfold setAll; rfl
  | _ :: _, [], _ => by unfold setAll; rfl
  | i :: is, d :: ds, ρ => by
    show (setAll is ds (ρ.set i (some (.d d)))).length = ρ.length
    rw [setAll_len, List.length_set]
theorem names_read {K : PySem.W.Frag} {mg : Str → Option Value} {F Gs Hs H : Hp} {Q : St → Hp → Prop} : ∀ {is : List Nat} {ds : List D} {vs : List V} {σ : St} {ρ : Env}, Rep K mg F Gs Hs H σ ρ → IsAll K Hs ds vs → ds.length = is.length → (∀ σ', Rep K mg F Gs Hs H σ' (setAll is ds ρ) → (∀ i, i ∉ is → σ'[i]? = σ[i]?) → Q σ' H) → gNames is vs σ H Q
  | [], [], _, σ, ρ, r, h, _, q => by
    simp only [IsAll] at h
    exact ⟨h, q σ r fun _ _ => rfl⟩
  | i :: is, d :: ds, _, σ, ρ, r, h, hl, q => by
    simp only [IsAll] at h
    obtain ⟨v, rr, e, h1, h2⟩ := h
    refine ⟨v, rr, e, names_read (r.setD h1) h2 (by simpa using hl) fun σ' r' k => q σ' r' fun j hj => ?_⟩
    rw [k j fun z => hj (List.mem_cons_of_mem _ z), List.getElem?_set_ne fun z => hj (by simp [z])]
def kNames (is : List Nat) : D → Env → Out Env := fun d ρ => match d with
  | .tup ds => guard' (ds.length = is.length) (.ok (setAll is ds ρ))
  | .lst ds => guard' (ds.length = is.length) (.ok (setAll is ds ρ))
  | _ => .stuck
theorem PG.or {g g' : TG} (h : PG X tg g) (h' : PG X tg g') : PG X tg (fun v σ H Q => g v σ H Q ∨ g' v σ H Q) := ⟨fun pins s σ H v u Q I r q => by
  rcases q with q | q
  · exact h.run pins s σ H v u Q I r q
  · exact h'.run pins s σ H v u Q I r q⟩
def gBoth (K : PySem.W.Frag) (is : List Nat) : TG := fun v σ H Q => gTup K is.length (gNames is) v σ H Q ∨ gLst K is.length (gNames is) v σ H Q
theorem guard_eq {α : Type} {c : Prop} [Decidable c] {r : Out α} {a : α} (h : guard' c r = .ok a) : c ∧ r = .ok a := by
  unfold guard' at h
  split at h
  · exact ⟨by assumption, h⟩
  · cases h
theorem grd_names {K : PySem.W.Frag} {mg : Str → Option Value} (is : List Nat) : GRd K mg (gBoth K is) is (kNames is) :=
  ⟨fun F Gs Hs H σ ρ d v Q ρ' r hd e q => by
    unfold kNames at e
    cases d with
    | tup ds =>
      obtain ⟨hl, e⟩ := guard_eq e
      cases e
      simp only [Is] at hd
      obtain ⟨t, vs, rfl, ht, hv⟩ := hd
      exact .inl ⟨t, vs, rfl, ex_t r.sh ht, by rw [hv.len]; exact hl, names_read r hv hl q⟩
    | lst ds =>
      obtain ⟨hl, e⟩ := guard_eq e
      cases e
      simp only [Is] at hd
      obtain ⟨t, vs, rfl, ht, hv⟩ := hd
      exact .inr ⟨t, vs, rfl, SqL.of (r.sh _ _ ht), by rw [hv.len]; exact hl, names_read r hv hl q⟩
    | _ => (cases e), fun d ρ ρ' e j hj => by
    unfold kNames at e
    cases d with
    | tup ds =>
      obtain ⟨hl, e⟩ := guard_eq e
      cases e; exact setAll_out hj
    | lst ds =>
      obtain ⟨hl, e⟩ := guard_eq e
      cases e; exact setAll_out hj
    | _ => (cases e), fun d ρ c p e => by
    unfold kNames guard' at e
    cases d with
    | tup ds => dsimp only at e; split at e <;> cases e
    | lst ds => dsimp only at e; split at e <;> cases e
    | _ => (cases e), fun d ρ ρ' e => by
    unfold kNames at e
    cases d with
    | tup ds =>
      obtain ⟨hl, e⟩ := guard_eq e
      cases e; exact setAll_len
    | lst ds =>
      obtain ⟨hl, e⟩ := guard_eq e
      cases e; exact setAll_len
    | _ => (cases e)⟩

theorem hg_names (is : List Nat) {k : Nat} (hc : X.calm = true) (h : PGs X es (gNames is)) (hn : (assignEach es X.env).length = is.length := by rfl) (hst : (assignEach es X.env).findIdx? (·.1) = none := by rfl) : HG X (.Tuple es k pos) (gBoth X.K is) is (kNames is) := ⟨PG.or (pg_tup hc h hn hst) (pg_lst hc h hn hst), grd_names is⟩
/-! ### for -/
def loopD (k : D → Env → Out Env) (f : Env → Out Res) : List D → Env → Out Res
  | [], ρ => .ok (.next ρ)
  | d :: ds, ρ => (k d ρ).bind fun ρ1 => (f ρ1).bind fun r => match r with
    | .next ρ2 => loopD k f ds ρ2
    | .ret s => .ok (.ret s)
def sFor (it : Env → Out (List D)) (k : D → Env → Out Env) (f : Env → Out Res) : Env → Out Res := fun ρ => (it ρ).bind fun ds => loopD k f ds ρ
theorem fix_loop {asg asg' : List Nat} {k : D → Env → Out Env} {f : Env → Out Res} (h1 : ∀ d ρ ρ', k d ρ = .ok ρ' → ∀ i, i ∉ asg → ρ'[i]? = ρ[i]?) (h2 : Fix asg' f) : ∀ (ds : List D) (ρ ρ' : Env), loopD k f ds ρ = .ok (.next ρ') → ∀ i, i ∉ asg ++ asg' → mq ρ'[i]? = mq ρ[i]?
  | [], ρ, ρ', e, i, _ => by unfold loopD at e; cases e; rfl
  | d :: ds, ρ, ρ', e, i, hi => by
    unfold loopD at e
    obtain ⟨ρ1, e1, e⟩ := bind_next e
    obtain ⟨r, e2, e⟩ := bind_next e
    cases r with
    | next ρ2 => rw [fix_loop h1 h2 ds ρ2 ρ' e i hi, h2 ρ1 ρ2 e2 i fun z => hi (List.mem_append_right _ z), h1 d ρ ρ1 e1 i fun z => hi (List.mem_append_left _ z)]
    | ret s => cases e
theorem hs_for {body : List Stmt} {it : Env → Out (List D)} {g : TG} {asg asg' : List Nat} {k : D → Env → Out Env} {f : Env → Out Res} (po : PassesOwn (model X.prog X.w) X.A X.env X.xe) (hc : X.calm = true) (hi : HI X W tg iter it) (hg : HG X tg g asg k) (hb : HS X W body asg' f)
    (hs : ∀ x, foldedSetIterable iter X.env x = pure x := by intro _; rfl) : HS1 X W (.For tg iter body [] pos) (asg ++ asg') (sFor it k f) := by
  refine ⟨PS.imp (ps_for po hc hi.pi hg.pg hb.pss hs) fun D σ H ⟨F, Gs, Hs, ρ, r, p⟩ => ⟨F, Gs, Hs, ρ, r, (postS_seq r p).imp fun J H1 ⟨Hs1, ds, g1, hJ, p1⟩ => ?_⟩, fun ρ ρ' e i hi => ?_⟩
  · refine ⟨fun i m σ' H' => ∃ Hs' ρ', m = ds.length - i ∧ i ≤ ds.length ∧ Rep X.K X.mg F Gs Hs' H' σ' ρ' ∧ Ex Hs1 Hs' ∧ PostS X.K X.mg W (asg ++ asg') F Gs Hs' σ' (loopD k f (ds.drop i) ρ') D, ⟨ds.length, Hs1, ρ, by simp, Nat.zero_le _, r.grow g1, Ex.refl _, p1⟩, ?_⟩
    rintro i m σ' H' ⟨Hs', ρ', rfl, hle, r', e', p'⟩
    obtain ⟨j1, j2⟩ := hJ i H' (e'.trans r'.sh)
    cases q : ds[i]? with
    | none =>
      refine .inl ⟨j2 q, ?_⟩
      have : ds.drop i = [] := by
        rw [List.drop_eq_nil_iff]
        exact List.getElem?_eq_none_iff.mp q
      rw [this] at p'
      exact p' σ' Hs' H' r' (Ex.refl _) fun _ _ => rfl
    | some d =>
      obtain ⟨jg, jy⟩ := j1 d q
      have hlt : i < ds.length := (List.getElem?_eq_some_iff.mp q).1
      have hdr : ds.drop i = d :: ds.drop (i + 1) := by
        rw [List.drop_eq_getElem_cons hlt]
        have := (List.getElem?_eq_some_iff.mp q).2
        rw [this]
      rw [hdr] at p'
      unfold loopD at p'
      refine .inr ⟨jg, fun σ2 H2 => ∃ Hs' ρ', i + 1 ≤ ds.length ∧ Rep X.K X.mg F Gs Hs' H2 σ2 ρ' ∧ Ex Hs1 Hs' ∧ PostS X.K X.mg W (asg ++ asg') F Gs Hs' σ2 (loopD k f (ds.drop (i + 1)) ρ') D, fun σ2 H2 ⟨Hs2, ρ2, a1, a2, a3, a4⟩ => ⟨ds.length - (i + 1), by omega, Hs2, ρ2, rfl, a1, a2, a3, a4⟩, fun x H2 y => ?_⟩
      obtain ⟨rfl, hx⟩ := jy x H2 y
      cases z : k d ρ' with
      | ok ρ1 =>
        rw [z] at p'
        refine hg.r.rd F Gs Hs' H2 σ' ρ' d x _ ρ1 r' (Is.mono e' d hx) z fun σ1 r1 k1 => ⟨F, Gs, Hs', ρ1, r1, ?_⟩
        have p' : PostS X.K X.mg W (asg ++ asg') F Gs Hs' σ' ((f ρ1).bind fun r => match r with | .next ρ2 => loopD k f (ds.drop (i + 1)) ρ2 | .ret s => .ok (.ret s)) D := p'
        cases z2 : f ρ1 with
        | ok r2 =>
          rw [z2] at p'
          cases r2 with
          | next ρ2 => exact fun σ2 Hs2 H3 r2 e2 k2 => ⟨Hs2, ρ2, hlt, r2, e'.trans e2, PostS.mono p' e2 fun j hj => (k2 j fun zz => hj (List.mem_append_right _ zz)).trans (k1 j fun zz => hj (List.mem_append_left _ zz))⟩
          | ret s => exact p'
        | exc c p2 => rw [z2] at p'; exact p'
        | stuck => rw [z2] at p'; exact p'
      | exc c p2 => exact (hg.r.exc d ρ' c p2 z).elim
      | stuck => rw [z] at p'; exact p'.elim
  · obtain ⟨ds, _, e⟩ := bind_next e
    exact fix_loop hg.r.fix hb.fix ds ρ ρ' e i hi
/-! ### while -/
def whileD (t : Env → Out Bool) (f : Env → Out Res) : Nat → Env → Out Res
  | 0, _ => .stuck
  | n + 1, ρ => (t ρ).bind fun b => if b = true then (f ρ).bind fun r => match r with
    | .next ρ2 => whileD t f n ρ2
    | .ret s => .ok (.ret s)
    else .ok (.next ρ)
def sWhile (n : Nat) (t : Env → Out Bool) (f : Env → Out Res) : Env → Out Res := whileD t f n
theorem fix_while {asg : List Nat} {t : Env → Out Bool} {f : Env → Out Res} (h2 : Fix asg f) : ∀ (n : Nat) (ρ ρ' : Env), whileD t f n ρ = .ok (.next ρ') → ∀ i, i ∉ asg → mq ρ'[i]? = mq ρ[i]?
  | 0, ρ, ρ', e, i, _ => by unfold whileD at e; cases e
  | n + 1, ρ, ρ', e, i, hi => by
    unfold whileD at e
    obtain ⟨b, e1, e⟩ := bind_next e
    cases b with
    | true =>
      rw [if_pos rfl] at e
      obtain ⟨r, e2, e⟩ := bind_next e
      cases r with
      | next ρ2 => rw [fix_while h2 n ρ2 ρ' e i hi, h2 ρ ρ2 e2 i hi]
      | ret s => cases e
    | false => rw [if_neg Bool.false_ne_true] at e; cases e; rfl
theorem hs_while (n : Nat) {body : List Stmt} {t : Env → Out Bool} {asg : List Nat} {f : Env → Out Res} (po : PassesOwn (model X.prog X.w) X.A X.env X.xe) (hc : HT X W c t) (hb : HS X W body asg f) : HS1 X W (.While c body [] pos) asg (sWhile n t f) := by
  refine ⟨PS.imp (ps_while po hc.pt hb.pss) fun D σ H ⟨F, Gs, Hs, ρ, r, p⟩ => ?_, fun ρ ρ' e i hi => fix_while hb.fix n ρ ρ' e i hi⟩
  refine ⟨fun m σ' H' => ∃ Hs' ρ', Rep X.K X.mg F Gs Hs' H' σ' ρ' ∧ PostS X.K X.mg W asg F Gs Hs' σ' (whileD t f m ρ') D, ⟨n, Hs, ρ, r, p⟩, ?_⟩
  rintro m σ' H' ⟨Hs', ρ', r', p'⟩
  cases m with
  | zero => exact (show False from p').elim
  | succ m =>
    unfold whileD at p'
    refine ⟨F, Gs, Hs', ρ', r', (postS_seq r' p').imp fun b H1 ⟨Hs1, b', g1, hb1, p1⟩ => ?_⟩
    obtain rfl : b = b' := hb1
    cases b with
    | false =>
      rw [if_neg Bool.false_ne_true] at p1 ⊢
      exact p1 σ' Hs1 H1 (r'.grow g1) (Ex.refl _) fun _ _ => rfl
    | true =>
      rw [if_pos rfl] at p1 ⊢
      refine ⟨fun σ2 H2 => ∃ Hs' ρ', Rep X.K X.mg F Gs Hs' H2 σ2 ρ' ∧ PostS X.K X.mg W asg F Gs Hs' σ2 (whileD t f m ρ') D, fun σ2 H2 ⟨Hs2, ρ2, a1, a2⟩ => ⟨m, by omega, Hs2, ρ2, a1, a2⟩, F, Gs, Hs1, ρ', r'.grow g1, ?_⟩
      cases z2 : f ρ' with
      | ok r2 =>
        rw [z2] at p1
        cases r2 with
        | next ρ2 => exact fun σ2 Hs2 H3 r2 e2 k2 => ⟨Hs2, ρ2, r2, PostS.mono p1 e2 k2⟩
        | ret s => exact p1
      | exc c p2 => rw [z2] at p1; exact p1
      | stuck => rw [z2] at p1; exact p1
end
end G

set_option Elab.async false
set_option linter.all false
set_option maxRecDepth 100000
set_option maxHeartbeats 2000000
namespace G
open PySem PySem.Spec L2
open Evl (Ex ex_l ex_t ex_rd)

/-! ### comprehensions -/
def noX {α : Type} : Out α → Out α
  | .exc _ _ => .stuck
  | r => r
theorem noX_ok {α : Type} {r : Out α} {a : α} (h : noX r = .ok a) : r = .ok a := by
  cases r with
  | ok b => exact h
  | exc c p => cases h
  | stuck => cases h
def lcD (k : D → Env → Out Env) (t : Env → Out Bool) (el : Env → Out D) (ρ : Env) : List D → Out (List D)
  | [] => .ok []
  | d :: ds => (noX (k d ρ)).bind fun ρ1 => (noX (t ρ1)).bind fun b => if b = true then (noX (el ρ1)).bind fun y => (lcD k t el ρ ds).bind fun ys => .ok (y :: ys) else lcD k t el ρ ds
def dLc (vs : List Nat) (it : Env → Out (List D)) (k : D → Env → Out Env) (t : Env → Out Bool) (el : Env → Out D) : Env → Out S := fun ρ => (it ρ).bind fun ds => guard' (ds.length ≤ cap) ((lcD k t el (wipeE ρ vs) ds).bind fun ys => .ok (.l ys))
theorem bind_ok {α β : Type} {r : Out α} {k : α → Out β} {b : β} (e : r.bind k = .ok b) : ∃ a, r = .ok a ∧ k a = .ok b := by
  cases r with
  | ok a => exact ⟨a, rfl, e⟩
  | exc c p => cases e
  | stuck => cases e
theorem lcD_exc {k : D → Env → Out Env} {t : Env → Out Bool} {el : Env → Out D} {ρ : Env} {c : Str} {p : Option Int} : ∀ {ds : List D}, lcD k t el ρ ds ≠ .exc c p
  | [], e => by unfold lcD at e; cases e
  | d :: ds, e => by
    unfold lcD at e
    cases z : noX (k d ρ) with
    | ok ρ1 =>
      rw [z] at e
      have e : ((noX (t ρ1)).bind fun b => if b = true then (noX (el ρ1)).bind fun y => (lcD k t el ρ ds).bind fun ys => .ok (y :: ys) else lcD k t el ρ ds) = _ := e
      cases z2 : noX (t ρ1) with
      | ok b =>
        rw [z2] at e
        cases b with
        | true =>
          have e : ((noX (el ρ1)).bind fun y => (lcD k t el ρ ds).bind fun ys => .ok (y :: ys)) = .exc c p := e
          cases z3 : noX (el ρ1) with
          | ok y =>
            rw [z3] at e
            have e : ((lcD k t el ρ ds).bind fun ys => .ok (y :: ys)) = .exc c p := e
            cases z4 : lcD k t el ρ ds with
            | ok ys => rw [z4] at e; cases e
            | exc c' p' => exact lcD_exc z4
            | stuck => rw [z4] at e; cases e
          | exc c' p' => cases q : el ρ1 <;> rw [q] at z3 <;> cases z3
          | stuck => rw [z3] at e; cases e
        | false => exact lcD_exc (show lcD k t el ρ ds = .exc c p from e)
      | exc c' p' => cases q : t ρ1 <;> rw [q] at z2 <;> cases z2
      | stuck => rw [z2] at e; cases e
    | exc c' p' => cases q : k d ρ <;> rw [q] at z <;> cases z
    | stuck => rw [z] at e; cases e
theorem wipe_get {σ : St} {i : Nat} : ∀ {vs : List Nat}, (wipe σ vs)[i]? = if i ∈ vs then (if i < σ.length then some none else none) else σ[i]?
  | [] => by simp [wipe]
  | v :: vs => by
    unfold wipe
    by_cases hv : v = i
    · subst hv
      rw [if_pos List.mem_cons_self]
      by_cases hl : v < σ.length
      · rw [List.getElem?_set_self (by rw [wipe_length]; exact hl), if_pos hl]
      · rw [List.getElem?_eq_none (by rw [List.length_set, wipe_length]; omega), if_neg hl]
    · rw [List.getElem?_set_ne hv, wipe_get]
      by_cases hm : i ∈ vs
      · rw [if_pos hm, if_pos (List.mem_cons_of_mem _ hm)]
      · rw [if_neg hm, if_neg (by simp only [List.mem_cons, not_or]; exact ⟨fun e => hv e.symm, hm⟩)]
theorem wipe_ext {σ σ' : St} {vs : List Nat} (hl : σ.length = σ'.length) (h : ∀ i, i ∉ vs → σ[i]? = σ'[i]?) : wipe σ vs = wipe σ' vs := by
  apply List.ext_getElem?
  intro i
  rw [wipe_get, wipe_get]
  by_cases hm : i ∈ vs
  · rw [if_pos hm, if_pos hm, hl]
  · rw [if_neg hm, if_neg hm, h i hm]
theorem wipeE_get {σ : Env} {i : Nat} : ∀ {vs : List Nat}, (wipeE σ vs)[i]? = if i ∈ vs then (if i < σ.length then some none else none) else σ[i]?
  | [] => by simp [wipeE]
  | v :: vs => by
    have wl : ∀ vs : List Nat, (wipeE σ vs).length = σ.length := fun vs => by
      induction vs with
      | nil => rfl
      | cons a r ih => show ((wipeE σ r).set a none).length = _; rw [List.length_set, ih]
    unfold wipeE
    by_cases hv : v = i
    · subst hv
      rw [if_pos List.mem_cons_self]
      by_cases hl : v < σ.length
      · rw [List.getElem?_set_self (by rw [wl]; exact hl), if_pos hl]
      · rw [List.getElem?_eq_none (by rw [List.length_set, wl]; omega), if_neg hl]
    · rw [List.getElem?_set_ne hv, wipeE_get]
      by_cases hm : i ∈ vs
      · rw [if_pos hm, if_pos (List.mem_cons_of_mem _ hm)]
      · rw [if_neg hm, if_neg (by simp only [List.mem_cons, not_or]; exact ⟨fun e => hv e.symm, hm⟩)]
theorem wipeE_length {σ : Env} : ∀ vs : List Nat, (wipeE σ vs).length = σ.length
  | [] => rfl
  | a :: r => by show ((wipeE σ r).set a none).length = _; rw [List.length_set, wipeE_length r]
/-- slots wiped on both sides -/
theorem Rep.wipe2 {K : PySem.W.Frag} {mg : Str → Option Value} {F Gs Hs H : Hp} {σ : St} {ρ : Env} (r : Rep K mg F Gs Hs H σ ρ) (vs : List Nat) : Rep K mg F Gs Hs H (L2.wipe σ vs) (wipeE ρ vs) := by
  obtain ⟨fp, sl⟩ := r.sl
  refine ⟨by rw [wipe_length, wipeE_length]; exact r.len, r.gr, fp, fun i s e => ?_, sl.free, sl.sep, sl.nd⟩
  rw [wipeE_get] at e
  by_cases hm : i ∈ vs
  · rw [if_pos hm] at e; split at e <;> cases e
  · rw [if_neg hm] at e
    obtain ⟨v, e1, o⟩ := sl.own i s e
    exact ⟨v, by rw [wipe_get, if_neg hm]; exact e1, o⟩
abbrev W0 : WX := fun _ _ _ _ => False
section
variable {X : Cx} {W : WX} {tg iter elt e a b c : Expr} {ifs : List Expr} {es : List Expr} {pos p1 : Pos} {scope : Scope} {own : List (Str × Nat)}
theorem lc_imp {it : Env → Out (List D)} {g : TG} {asg : List Nat} {k : D → Env → Out Env} {t : Env → Out Bool} {el : Env → Out D} {vs : List Nat} (hg : GRd X.K X.mg g asg k) (hsub : ∀ i ∈ asg, i ∈ vs) {σ : St} {H : Hp} {Q : VK}
    (h : tG (RE X.K X.mg) X.K X.mg W (dLc vs it k t el) σ H Q) : tLc (tG (RIb X.K) X.K X.mg W it) g (tG RT X.K X.mg W0 t) (tG (RD X.K) X.K X.mg W0 el) vs σ H Q := by
  obtain ⟨F, Gs, Hs, ρ, r, p⟩ := h
  refine ⟨F, Gs, Hs, ρ, r, (Post.seq anti_E p).imp fun J H1 ⟨Hs1, ds, g1, hJ, p1⟩ => ?_⟩
  obtain ⟨hcap, p1⟩ := guard_ok p1
  intro Dl hD
  have hDs1 : Hs1 Dl = none := none_of_ex g1.sh hD
  cases z : lcD k t el (wipeE ρ vs) ds with
  | exc c' p' => exact (lcD_exc z).elim
  | stuck => rw [z] at p1; exact p1.elim
  | ok ys =>
  rw [z] at p1
  have p1 : Post (RE X.K X.mg) X.mg W σ Hs1 H1 (.ok (.l ys)) Q := p1
  refine ⟨fun i m H' => ∃ Hs' acc dn rs, m = ds.length - i ∧ i ≤ ds.length ∧ Grow Hs1 H1 Hs' H' ∧ Hs' Dl = none ∧ H' Dl = some (.lst acc) ∧ IsAll X.K Hs' dn acc ∧ dn.length ≤ i ∧ lcD k t el (wipeE ρ vs) (ds.drop i) = .ok rs ∧ dn ++ rs = ys,
    ⟨ds.length, Hs1, [], [], ys, by simp, Nat.zero_le _, Grow.whole g1.sh (Ex.new hD), hDs1, upd_same, isAll_nil, Nat.le_refl _, z, rfl⟩, ?_⟩
  rintro i m H' ⟨Hs', acc, dn, rs, rfl, hle, gr, hn, hd, ha, hl, hz, hy⟩
  obtain ⟨j1, j2⟩ := hJ i H' gr.h
  have rep' : Rep X.K X.mg F Gs Hs' H' σ ρ := (r.grow g1).grow gr
  cases q : ds[i]? with
  | none =>
    refine .inl ⟨j2 q, ?_⟩
    have e0 : ds.drop i = [] := by
      rw [List.drop_eq_nil_iff]
      exact List.getElem?_eq_none_iff.mp q
    rw [e0] at hz
    unfold lcD at hz
    cases hz
    rw [List.append_nil] at hy
    subst hy
    refine p1 (.ref Dl) Hs' H' gr ⟨[Dl], ⟨Dl, acc, rfl, rfl, hd, ha⟩, fun q hq => ?_, by simp⟩
    have : q = Dl := by simpa using hq
    subst this; exact ⟨hD, hn⟩
  | some d =>
    obtain ⟨jg, jy⟩ := j1 d q
    have hlt : i < ds.length := (List.getElem?_eq_some_iff.mp q).1
    have hdr : ds.drop i = d :: ds.drop (i + 1) := by
      rw [List.drop_eq_getElem_cons hlt]
      have := (List.getElem?_eq_some_iff.mp q).2
      rw [this]
    rw [hdr] at hz
    unfold lcD at hz
    obtain ⟨ρ1, z1, hz⟩ := bind_ok hz
    obtain ⟨b, z2, hz⟩ := bind_ok hz
    have z1 := noX_ok z1
    have z2 := noX_ok z2
    refine .inr ⟨jg, fun H2 => ∃ Hs' acc dn rs, i + 1 ≤ ds.length ∧ Grow Hs1 H1 Hs' H2 ∧ Hs' Dl = none ∧ H2 Dl = some (.lst acc) ∧ IsAll X.K Hs' dn acc ∧ dn.length ≤ i + 1 ∧ lcD k t el (wipeE ρ vs) (ds.drop (i + 1)) = .ok rs ∧ dn ++ rs = ys,
      fun H2 ⟨Hs2, acc2, dn2, rs2, a0, a1, a2, a3, a4, a5, a6, a7⟩ => ⟨ds.length - (i + 1), by omega, Hs2, acc2, dn2, rs2, rfl, a0, a1, a2, a3, a4, a5, a6, a7⟩, fun x H2 y => ?_⟩
    obtain ⟨rfl, hx⟩ := jy x H2 y
    refine hg.rd F Gs Hs' H2 (wipe σ vs) (wipeE ρ vs) d x _ ρ1 (rep'.wipe2 vs) (Is.mono gr.s d hx) z1 fun σ2 r2 k2 => ?_
    refine ⟨?_, F, Gs, Hs', ρ1, r2, ?_⟩
    · refine (wipe_ext (σ' := wipe σ vs) ?_ fun i hi => k2 i fun z => hi (hsub i z)).trans (wipe_ext ?_ fun i hi => by rw [wipe_get, if_neg hi])
      · rw [r2.len, hg.len _ _ _ z1, wipeE_length, wipe_length, rep'.len]
      · rw [wipe_length]
    · rw [z2]
      intro b' Hs3 H3 g3 hb
      obtain rfl : b' = b := hb
      have n3 : Hs3 Dl = none := by
        cases q3 : Hs3 Dl with
        | none => rfl
        | some o => exact absurd hn (g3.ap Dl (by rw [q3]; simp) (by rw [hd]; simp))
      cases b' with
      | false =>
        rw [if_neg Bool.false_ne_true] at hz ⊢
        exact ⟨Hs3, acc, dn, rs, hlt, gr.trans g3, n3, g3.h _ _ hd, IsAll.mono g3.s _ ha, by omega, hz, hy⟩
      | true =>
        rw [if_pos rfl] at hz ⊢
        obtain ⟨y0, z3, hz⟩ := bind_ok hz
        have z3 := noX_ok z3
        obtain ⟨rs', z4, hz⟩ := bind_ok hz
        cases hz
        refine ⟨F, Gs, Hs3, ρ1, r2.grow g3, ?_⟩
        rw [z3]
        intro yv Hs4 H4 g4 hyv
        have hyv : Is _ _ _ _ := hyv
        have d4 : H4 Dl = some (.lst acc) := g4.h _ _ (g3.h _ _ hd)
        have n4 : Hs4 Dl = none := by
          cases q3 : Hs4 Dl with
          | none => rfl
          | some o => exact absurd n3 (g4.ap Dl (by rw [q3]; simp) (by rw [g3.h _ _ hd]; simp))
        have hal := ha.len
        refine ⟨acc, d4, by rw [hal]; exact cap_lt (by omega), Hs4, acc ++ [yv], dn ++ [y0], rs', hlt, ?_, n4, upd_same, ?_, by rw [List.length_append]; simpa using hl, z4, by rw [List.append_assoc]; exact hy⟩
        · have gg := (gr.trans g3).trans g4
          refine ⟨Ex.mut gg.h hD, gg.s, fun a o e => ?_, gg.ap⟩
          rw [upd_ne fun zz => by rw [zz, n4] at e; cases e]
          exact gg.sh a o e
        · exact IsAll.app (IsAll.mono g4.s _ (IsAll.mono g3.s _ ha)) (isAll_cons hyv isAll_nil)
theorem pts_yes {Y : Cx} : PTs Y [] (tG RT Y.K Y.mg W0 fun _ => .ok true) := ⟨fun pins s' σ H' Q I h => by
  obtain ⟨F, Gs, Hs, ρ, r, p⟩ := h
  exact pts_nil.run pins s' σ H' Q I (p.now r.sh rfl)⟩
def yesT : Env → Out Bool := fun _ => .ok true
theorem he_lc {it : Env → Out (List D)} {g : TG} {asg : List Nat} {k : D → Env → Out Env} {el : Env → Out D} (hc : X.calm = true) (hN : X.N.Nodup) (hi : HIb X W tg iter it) (ok : BlkOk X.N X.env.scope scope own)
    (hg : ∀ (s : Shared) (H : Hp) (C : Addr) (cl : List (Str × Addr)) (fp : List Addr), PG (X.blk s H scope (compEnvC scope cl C X.env) fp) tg g) (hr : GRd X.K X.mg g asg k)
    (he : ∀ (s : Shared) (H : Hp) (C : Addr) (cl : List (Str × Addr)) (fp : List Addr), HD (X.blk s H scope (compEnvC scope cl C X.env) fp) W0 elt el) (hsub : ∀ i ∈ asg, i ∈ own.map (·.2) := by decide) (hs : ∀ x, foldedSetIterable iter X.env x = pure x := by intro _; rfl) :
    HE X W (.ListComp elt [⟨tg, iter, [], 0⟩] scope pos) (dLc (own.map (·.2)) it k yesT el) :=
  ⟨PE.imp (pe_lc (tt := tG RT X.K X.mg W0 yesT) (te := tG (RD X.K) X.K X.mg W0 el) hc hN hi.pi ok hg (fun s H C cl fp => pts_yes) (fun s H C cl fp => (he s H C cl fp).pe) hs) fun σ H Q h => lc_imp hr hsub h⟩
theorem he_lcT {it : Env → Out (List D)} {g : TG} {asg : List Nat} {k : D → Env → Out Env} {t : Env → Out Bool} {el : Env → Out D} (hc : X.calm = true) (hN : X.N.Nodup) (hi : HIb X W tg iter it) (ok : BlkOk X.N X.env.scope scope own)
    (hg : ∀ (s : Shared) (H : Hp) (C : Addr) (cl : List (Str × Addr)) (fp : List Addr), PG (X.blk s H scope (compEnvC scope cl C X.env) fp) tg g) (hr : GRd X.K X.mg g asg k)
    (ht : ∀ (s : Shared) (H : Hp) (C : Addr) (cl : List (Str × Addr)) (fp : List Addr), HT (X.blk s H scope (compEnvC scope cl C X.env) fp) W0 c t)
    (he : ∀ (s : Shared) (H : Hp) (C : Addr) (cl : List (Str × Addr)) (fp : List Addr), HD (X.blk s H scope (compEnvC scope cl C X.env) fp) W0 elt el) (hsub : ∀ i ∈ asg, i ∈ own.map (·.2) := by decide) (hs : ∀ x, foldedSetIterable iter X.env x = pure x := by intro _; rfl) :
    HE X W (.ListComp elt [⟨tg, iter, [c], 0⟩] scope pos) (dLc (own.map (·.2)) it k t el) :=
  ⟨PE.imp (pe_lc (tt := tG RT X.K X.mg W0 t) (te := tG (RD X.K) X.K X.mg W0 el) hc hN hi.pi ok hg (fun s H C cl fp => pts_one (ht s H C cl fp).pt) (fun s H C cl fp => (he s H C cl fp).pe) hs) fun σ H Q h => lc_imp hr hsub h⟩
/-- y = [..] on one line: frozen at once; own -/
theorem hs_lc (i : Nat) {y : Str} {py spos : Pos} {it : Env → Out (List D)} {g : TG} {asg : List Nat} {k : D → Env → Out Env} {el : Env → Out D} (hc : X.calm = true) (hN : X.N.Nodup) (hy : X.N[i]? = some y) (hyl : X.env.scope.names.lookup y = some .local)
    (hsw : swapsWith (.ListComp elt [⟨tg, iter, [], 0⟩] scope pos) (some (.Name y py)) spos.line X.env = pure true) (hi : HIb X W tg iter it) (ok : BlkOk X.N X.env.scope scope own)
    (hg : ∀ (s : Shared) (H : Hp) (C : Addr) (cl : List (Str × Addr)) (fp : List Addr), PG (X.blk s H scope (compEnvC scope cl C X.env) fp) tg g) (hr : GRd X.K X.mg g asg k)
    (he : ∀ (s : Shared) (H : Hp) (C : Addr) (cl : List (Str × Addr)) (fp : List Addr), HD (X.blk s H scope (compEnvC scope cl C X.env) fp) W0 elt el) (hsub : ∀ i ∈ asg, i ∈ own.map (·.2) := by decide) (hs : ∀ x, foldedSetIterable iter X.env x = pure x := by intro _; rfl) :
    HS1 X W (.Assign [.Name y py] (.ListComp elt [⟨tg, iter, [], 0⟩] scope pos) spos) [i] (sAsgE i (dLc (own.map (·.2)) it k yesT el)) :=
  ⟨PS.imp (ps_setLc (tt := tG RT X.K X.mg W0 yesT) (te := tG (RD X.K) X.K X.mg W0 el) hc hN hy hyl hsw hi.pi ok hg (fun s H C cl fp => pts_yes) (fun s H C cl fp => (he s H C cl fp).pe) hs) fun D σ H h => lc_imp hr hsub (asgE_read h), fix_asg⟩
theorem hs_lcT (i : Nat) {y : Str} {py spos : Pos} {it : Env → Out (List D)} {g : TG} {asg : List Nat} {k : D → Env → Out Env} {t : Env → Out Bool} {el : Env → Out D} (hc : X.calm = true) (hN : X.N.Nodup) (hy : X.N[i]? = some y) (hyl : X.env.scope.names.lookup y = some .local)
    (hsw : swapsWith (.ListComp elt [⟨tg, iter, [c], 0⟩] scope pos) (some (.Name y py)) spos.line X.env = pure true) (hi : HIb X W tg iter it) (ok : BlkOk X.N X.env.scope scope own)
    (hg : ∀ (s : Shared) (H : Hp) (C : Addr) (cl : List (Str × Addr)) (fp : List Addr), PG (X.blk s H scope (compEnvC scope cl C X.env) fp) tg g) (hr : GRd X.K X.mg g asg k)
    (ht : ∀ (s : Shared) (H : Hp) (C : Addr) (cl : List (Str × Addr)) (fp : List Addr), HT (X.blk s H scope (compEnvC scope cl C X.env) fp) W0 c t)
    (he : ∀ (s : Shared) (H : Hp) (C : Addr) (cl : List (Str × Addr)) (fp : List Addr), HD (X.blk s H scope (compEnvC scope cl C X.env) fp) W0 elt el) (hsub : ∀ i ∈ asg, i ∈ own.map (·.2) := by decide) (hs : ∀ x, foldedSetIterable iter X.env x = pure x := by intro _; rfl) :
    HS1 X W (.Assign [.Name y py] (.ListComp elt [⟨tg, iter, [c], 0⟩] scope pos) spos) [i] (sAsgE i (dLc (own.map (·.2)) it k t el)) :=
  ⟨PS.imp (ps_setLc (tt := tG RT X.K X.mg W0 t) (te := tG (RD X.K) X.K X.mg W0 el) hc hN hy hyl hsw hi.pi ok hg (fun s H C cl fp => pts_one (ht s H C cl fp).pt) (fun s H C cl fp => (he s H C cl fp).pe) hs) fun D σ H h => lc_imp hr hsub (asgE_read h), fix_asg⟩
end
end G

set_option Elab.async false
set_option linter.all false
set_option maxRecDepth 100000
set_option maxHeartbeats 2000000
namespace G
open PySem PySem.Spec L2
open Evl (Ex ex_l ex_t ex_rd)

/-! ### raise -/
/-- what is known of an exception class of the text -/
structure ExF (K : PySem.W.Frag) (mg : Str → Option Value) (x : Str) (C : Addr) : Prop where
  g : mg x = some (.ref C)
  xi : PySem.W.excIn K C [.type "ValueError", .type "Exception", .type "BaseException", .type "object"] "ValueError.__new__" = true
  k : PySem.W.keepIn K (.ref C) = true
  b : PySem.W.subIn K (.ref C) (.type "BaseException") = some true
  t : PySem.W.typeIn K (.ref C) = some (.type "type")
section
variable {X : Cx} {W : WX} {tg iter elt e a b c : Expr} {es : List Expr} {pos p1 p2 p3 : Pos} {x m : Str} {j : Nat}
def sExc (c : Str) : Env → Out Res := fun _ => .exc c none
theorem hs_raise {C : Addr} (hc : X.calm = true) (tk : Takes X W) (F : ExF X.K X.mg x C) (hg : Gl X x := by rfl) (hdb : (x == ("__debug__" : Str)) = false := by decide) : HS1 X W (.Raise (some (.Call (.Name x p1) [.Constant (.str m) j p2] [] p3)) none pos) [] (sExc x) :=
  ⟨PS.imp (ps_raise hc tk (pmk_own PySem.F.excBase_ValueError F.xi F.g F.k (raises_own F.b F.t) hg hdb)) fun D σ H ⟨F', Gs, Hs, ρ, r, p⟩ => p (.ref C) none σ Hs H r.gr ⟨C, F.g, rfl, rfl⟩, fun ρ ρ' e => by cases e⟩

/-! ### unpacking, two at once -/
def sUnp (f : Env → Out D) (k : D → Env → Out Env) : Env → Out Res := fun ρ => (f ρ).bind fun d => (k d ρ).bind fun ρ' => .ok (.next ρ')
theorem hs_unp {f : Env → Out D} {g : TG} {asg : List Nat} {k : D → Env → Out Env} (he : HD X W e f) (hg : HG X tg g asg k) (hs : swapsWithSole [tg] e pos.line X.env = pure false := by rfl) (hw : swappedStores [tg] e X.env = pure none := by rfl)
    (h1 : (assignEach [tg] X.env).map (·.2) = [assign tg X.env] := by rfl) : HS1 X W (.Assign [tg] e pos) asg (sUnp f k) :=
  ⟨PS.imp (ps_asg he.pe hg.pg hs hw h1) fun D σ H ⟨F, Gs, Hs, ρ, r, p⟩ => ⟨F, Gs, Hs, ρ, r, (postS_seq r p).imp fun v H1 ⟨Hs1, d, g1, h1, p1⟩ => by
    cases z : k d ρ with
    | ok ρ' =>
      rw [z] at p1
      exact hg.r.rd F Gs Hs1 H1 σ ρ d v _ ρ' (r.grow g1) h1 z fun σ' r' k' => p1 σ' Hs1 H1 r' (Ex.refl _) k'
    | exc c p' => exact (hg.r.exc d ρ c p' z).elim
    | stuck => rw [z] at p1; exact p1.elim⟩, fun ρ ρ' e i hi => by
    obtain ⟨d, _, e⟩ := bind_next e
    obtain ⟨ρ1, e1, e⟩ := bind_next e
    cases e
    exact congrArg mq (hg.r.fix d ρ _ e1 i hi)⟩
def sPar (i j : Nat) (f : Env → Out (List D)) : Env → Out Res := fun ρ => (f ρ).bind fun ds => match ds with
  | [d, d'] => .ok (.next ((ρ.set i (some (.d d))).set j (some (.d d'))))
  | _ => .stuck
theorem hs_par (i j : Nat) {y : Str} {f : Env → Out (List D)} {px py pt : Pos} {kt k2 pt2} (hc : X.calm = true) (hN : X.N.Nodup) (hi : X.N[i]? = some x) (hj : X.N[j]? = some y) (hij : i ≠ j)
    (hx : X.env.scope.names.lookup x = some .local) (hy : X.env.scope.names.lookup y = some .local) (ha : HA X W [a, b] f)
    (hw : swappedStores [.Tuple [.Name x px, .Name y py] kt pt] (.Tuple [a, b] k2 pt2) X.env = pure (some [x, y]))
    (hs : swapsWithSole [.Tuple [.Name x px, .Name y py] kt pt] (.Tuple [a, b] k2 pt2) pos.line X.env = pure false := by rfl) : HS1 X W (.Assign [.Tuple [.Name x px, .Name y py] kt pt] (.Tuple [a, b] k2 pt2) pos) [i, j] (sPar i j f) :=
  ⟨PS.imp (ps_par hc hN hi hj hij hx hy ha.pa hw hs) fun D σ H ⟨F, Gs, Hs, ρ, r, p⟩ => ⟨F, Gs, Hs, ρ, r, (postS_seq r p).imp fun vs H1 ⟨Hs1, ds, g1, h1, p1⟩ => by
    split at p1
    · rename_i d d'
      obtain ⟨v, u, e1, h2, h3⟩ := isAll2 (show IsAll _ _ _ _ from h1)
      exact ⟨v, u, e1, p1 _ Hs1 H1 (((r.grow g1).setD h2).setD h3) (Ex.refl _) fun q hq => by
        simp only [List.mem_cons, List.not_mem_nil, or_false, not_or] at hq
        rw [List.getElem?_set_ne (Ne.symm hq.2), List.getElem?_set_ne (Ne.symm hq.1)]⟩
    · exact p1.elim⟩, fun ρ ρ' e q hq => by
    obtain ⟨ds, _, e⟩ := bind_next e
    split at e
    · cases e
      simp only [List.mem_cons, List.not_mem_nil, or_false, not_or] at hq
      rw [List.getElem?_set_ne (Ne.symm hq.2), List.getElem?_set_ne (Ne.symm hq.1)]
    · cases e⟩

/-! ### own lists changed -/
theorem Own.frame {K : PySem.W.Frag} {mg : Str → Option Value} {Hs H : Hp} {q : Addr} {o : HO} : ∀ {s : S} {v : V} {fp : List Addr}, Own K mg Hs H s v fp → q ∉ fp → Own K mg Hs (upd H q o) s v fp
  | .d _, _, _, h, _ => h
  | .x _ _, _, _, h, _ => h
  | .o _ _, _, _, h, _ => h
  | .l xs, _, _, ⟨p, vs, e1, e2, h1, h2⟩, hq => ⟨p, vs, e1, e2, by rw [upd_ne fun z => hq (by rw [e2, z]; simp)]; exact h1, h2⟩
  | .ll xss, _, _, ⟨p, ps, e1, e2, h1, h2⟩, hq => ⟨p, ps, e1, e2, by rw [upd_ne fun z => hq (by rw [e2, z]; simp)]; exact h1, by
    have all : ∀ {l : List Addr} {xs : List (List D)}, (∀ y ∈ l, y ∈ ps) → Paired (fun q xs => ∃ vs, H q = some (.lst vs) ∧ IsAll K Hs xs vs) l xs → Paired (fun y xs => ∃ vs, upd H q o y = some (.lst vs) ∧ IsAll K Hs xs vs) l xs := by
      intro l xs hs hp
      induction hp with
      | nil => exact .nil
      | cons r t ih =>
        obtain ⟨vs, h3, h4⟩ := r
        refine .cons ⟨vs, ?_, h4⟩ (ih fun y hy => hs y (List.mem_cons_of_mem _ hy))
        rw [upd_ne fun z => hq (by rw [e2, ← z]; exact List.mem_cons_of_mem _ (hs _ List.mem_cons_self))]
        exact h3
    exact all (fun _ h => h) h2⟩
  | .m _ _, _, _, ⟨p, C, dx, vs, e1, e2, h1, h2, h3⟩, hq => ⟨p, C, dx, vs, e1, e2, h1, by rw [upd_ne fun z => hq (by rw [e2, z]; simp)]; exact h2, h3⟩
/-- the own list of slot i becomes another one -/
theorem Rep.put {K : PySem.W.Frag} {mg : Str → Option Value} {F Gs Hs H : Hp} {σ : St} {ρ : Env} {i : Nat} {xs xs' : List D} (r : Rep K mg F Gs Hs H σ ρ) (e : ρ[i]? = some (some (.l xs))) :
    ∃ p vs, σ[i]? = some (some (.ref p)) ∧ H p = some (.lst vs) ∧ Hs p = none ∧ IsAll K Hs xs vs ∧ ∀ vs', IsAll K Hs xs' vs' → Rep K mg F Gs Hs (upd H p (.lst vs')) σ (ρ.set i (some (.l xs'))) := by
  obtain ⟨fp, sl⟩ := r.sl
  obtain ⟨v, e1, p, vs, rfl, e3, h1, h2⟩ := sl.own i _ e
  have pm : p ∈ fp i := by rw [e3]; simp
  obtain ⟨f1, f2, f3⟩ := sl.free i p pm
  refine ⟨p, vs, e1, h1, f2, h2, fun vs' h' => ⟨by rw [List.length_set]; exact r.len, ⟨Ex.mut r.gr.h f1, r.gr.s, fun a o q => ?_, r.gr.ap⟩, fp, fun j s' e4 => ?_, fun j q hq => ?_, sl.sep, sl.nd⟩⟩
  · rw [upd_ne fun z => by rw [z, f2] at q; cases q]
    exact r.gr.sh a o q
  · by_cases hj : j = i
    · subst hj
      have hl : j < ρ.length := (List.getElem?_eq_some_iff.mp e).1
      rw [List.getElem?_set_self hl] at e4
      cases e4
      exact ⟨_, e1, p, vs', rfl, e3, upd_same, h'⟩
    · rw [List.getElem?_set_ne (Ne.symm hj)] at e4
      obtain ⟨u, e5, o⟩ := sl.own j s' e4
      exact ⟨u, e5, o.frame fun z => hj (sl.sep j i p z pm)⟩
  · obtain ⟨a1, a2, a3⟩ := sl.free j q hq
    refine ⟨a1, a2, ?_⟩
    by_cases hb : q = p
    · rw [hb, upd_same]; simp
    · rw [upd_ne hb]; exact a3
/-- the own list of slot i goes through k -/
def sMut {α : Type} (i : Nat) (f : Env → Out α) (k : List D → α → Out (List D)) : Env → Out Res := fun ρ => match ρ[i]? with
  | some (some (.l xs)) => (f ρ).bind fun d => (k xs d).bind fun ys => .ok (.next (ρ.set i (some (.l ys))))
  | _ => .stuck
theorem fix_mut {α : Type} {i : Nat} {f : Env → Out α} {k : List D → α → Out (List D)} : Fix [i] (sMut i f k) := fun ρ ρ' e j hj => by
  unfold sMut at e
  split at e
  · obtain ⟨d, _, e⟩ := bind_next e
    obtain ⟨ys, _, e⟩ := bind_next e
    cases e; exact congrArg mq (set_out hj)
  · cases e
theorem guard_okS {K : PySem.W.Frag} {mg : Str → Option Value} {F Gs Hs : Hp} {σ : St} {asg : List Nat} {D : Ends} {c : Prop} [Decidable c] {r : Out Res} (h : PostS K mg W asg F Gs Hs σ (guard' c r) D) : c ∧ PostS K mg W asg F Gs Hs σ r D := by
  unfold guard' at h
  by_cases hc : c
  · rw [if_pos hc] at h; exact ⟨hc, h⟩
  · rw [if_neg hc] at h; exact h.elim
theorem mut_read {α w : Type} {R : Rel α w} {i : Nat} {f : Env → Out α} {k : List D → α → Out (List D)} {En : Ends} {σ : St} {H : Hp} {t : St → Hp → (w → Hp → Prop) → Prop} {r : V → w → Hp → VK → Prop} (ht : t = tG R X.K X.mg W f)
    (hr : ∀ (Hs H : Hp) (p : Addr) (vs : List V) (xs ys : List D) (d : α) (v : w) (H0 : Hp) (Q : VK), Ex Hs H → H p = some (.lst vs) → Hs p = none → IsAll X.K Hs xs vs → R H0 Hs H d v → k xs d = .ok ys → (∀ vs', IsAll X.K Hs ys vs' → Q .non (upd H p (.lst vs'))) → r (.ref p) v H Q)
    (hx : ∀ xs d c p, k xs d ≠ .exc c p) (h : tS X.K X.mg W [i] (sMut i f k) En σ H) : tVar i σ H fun x H1 => tyV X.K "list" x H1 ∧ t σ H1 fun v H2 => r x v H2 fun _ H3 => En.nx σ H3 := by
  subst ht
  obtain ⟨F, Gs, Hs, ρ, rep, p⟩ := h
  unfold sMut at p
  split at p
  · rename_i xs e
    obtain ⟨q, vs, e1, h1, h2, h3, _⟩ := rep.put (xs' := []) e
    refine ⟨.ref q, e1, .inl ⟨rfl, vs, SqL.of h1⟩, F, Gs, Hs, ρ, rep, (postS_seq rep p).imp fun v H1 ⟨Hs1, d, g1, hd, p1⟩ => ?_⟩
    cases z : k xs d with
    | ok ys =>
      rw [z] at p1
      have rep1 := rep.grow g1
      obtain ⟨q', vs1, e2, k1, k2, k3, k4⟩ := rep1.put (xs' := ys) e
      rw [e1] at e2
      cases e2
      exact hr Hs1 H1 q vs1 xs ys d v H _ g1.sh k1 k2 k3 hd z fun vs' hv => p1 σ Hs1 _ (k4 vs' hv) (Ex.refl _) fun _ _ => rfl
    | exc c p' => exact (hx xs d c p' z).elim
    | stuck => rw [z] at p1; exact p1.elim
  · exact p.elim
def kApp (xs : List D) (d : D) : Out (List D) := guard' (xs.length < cap) (.ok (xs ++ [d]))
theorem guard_exc {α : Type} {c : Prop} [Decidable c] {a : α} {x : Str} {p : Option Int} : guard' c (.ok a) ≠ .exc x p := fun e => by
  unfold guard' at e
  split at e <;> cases e
def argD : Env → Out D → Out D := fun _ r => r
theorem one_arg {f : Env → Out D} {σ : St} {H : Hp} {Q : List V → Hp → Prop} (h : tG (RD X.K) X.K X.mg W f σ H fun y H2 => Q [y] H2) : tCons (tG (RD X.K) X.K X.mg W f) tNil σ H Q := h
theorem hs_app (i : Nat) {f : Env → Out D} {apos : Pos} (hpe : PE X (.Call (.Attribute (.Name x p1) "append" apos) [e] [] p2) (tBM X.K "list" rAppend (tVar i) (tCons (tG (RD X.K) X.K X.mg W f) tNil))) (hs : swapsWith (.Call (.Attribute (.Name x p1) "append" apos) [e] [] p2) none pos.line X.env = pure false := by rfl) :
    HS1 X W (.Expr (.Call (.Attribute (.Name x p1) "append" apos) [e] [] p2) pos) [i] (sMut i f kApp) :=
  ⟨PS.imp (ps_expr hpe hs) fun D σ H h => mut_read (R := RD X.K) (r := fun x v H Q => rAppend x [v] H Q) rfl (fun Hs H p vs xs ys d v H0 Q e h1 h2 h3 h4 h5 q => by
    obtain ⟨ok, h5⟩ := guard_eq h5
    cases h5
    have h4 : Is _ _ _ _ := h4
    exact ⟨p, vs, v, rfl, rfl, h1, by rw [h3.len]; exact cap_lt (by omega), q _ (h3.app (isAll_cons h4 isAll_nil))⟩) (fun _ _ _ _ => guard_exc) h, fix_mut⟩
def kExt (xs : List D) (d : D) : Out (List D) := match d with
  | .lst ys => guard' (xs.length + ys.length ≤ cap) (.ok (xs ++ ys))
  | _ => .stuck
theorem hs_ext (i : Nat) {f : Env → Out D} {apos : Pos} (hpe : PE X (.Call (.Attribute (.Name x p1) "extend" apos) [e] [] p2) (tBM X.K "list" rExtend (tVar i) (tCons (tG (RD X.K) X.K X.mg W f) tNil))) (hs : swapsWith (.Call (.Attribute (.Name x p1) "extend" apos) [e] [] p2) none pos.line X.env = pure false := by rfl) :
    HS1 X W (.Expr (.Call (.Attribute (.Name x p1) "extend" apos) [e] [] p2) pos) [i] (sMut i f kExt) :=
  ⟨PS.imp (ps_expr hpe hs) fun D σ H h => mut_read (R := RD X.K) (r := fun x v H Q => rExtend x [v] H Q) rfl (fun Hs H p vs xs ys d v H0 Q e h1 h2 h3 h4 h5 q => by
    have h4 : Is _ _ _ _ := h4
    unfold kExt at h5
    cases d with
    | lst zs =>
      obtain ⟨ok, h5⟩ := guard_eq h5
      cases h5
      simp only [Is] at h4
      obtain ⟨b, us, rfl, hb, hu⟩ := h4
      have l1 := h3.len
      have l2 := hu.len
      exact ⟨p, b, vs, us, rfl, rfl, h1, e _ _ hb, cap_le (by omega), q _ (h3.app hu)⟩
    | _ => cases h5) (fun xs d c p z => by
    unfold kExt at z
    cases d with
    | lst zs => exact guard_exc z
    | _ => cases z) h, fix_mut⟩
/-- x[i] = e -/
def kSet (xs : List D) (d : D × D) : Out (List D) := match d.1 with
  | .int k => match ixN xs.length k with
    | some j => .ok (xs.set j d.2)
    | none => .stuck
  | _ => .stuck
def sSet (i : Nat) (f g : Env → Out D) : Env → Out Res := fun ρ => (f ρ).bind fun d => match ρ[i]? with
  | some (some (.l xs)) => (g ρ).bind fun z => (kSet xs (z, d)).bind fun ys => .ok (.next (ρ.set i (some (.l ys))))
  | _ => .stuck
theorem hs_set (i : Nat) {f g : Env → Out D} {ix : Expr} {tpos : Pos} (he : HD X W e f) (hi : HD X W ix g) (hN : X.N[i]? = some x := by rfl) (hv : Vis X.env.scope x := by first | exact Or.inl rfl | exact Or.inr (Or.inl rfl) | exact Or.inr (Or.inr rfl)) (hd : (x == ("__debug__" : Str)) = false := by decide) (hcd : (x == ("__classdict__" : Str)) = false := by decide)
    (ha : ∀ v, assign (.Subscript (.Name x p1) ix tpos) X.env v = (do
      let ov ← holding [v] (eval (.Name x p1) X.env)
      let iv ← holding [v, ov] (eval ix X.env)
      standAt tpos
      holding [v, ov, iv] (setItem ov iv v)
      release [v, ov, iv] []) := by intro _; rfl) (hs : swapsWithSole [.Subscript (.Name x p1) ix tpos] e pos.line X.env = pure false := by rfl) (hw : swappedStores [.Subscript (.Name x p1) ix tpos] e X.env = pure none := by rfl)
    (h1 : (assignEach [.Subscript (.Name x p1) ix tpos] X.env).map (·.2) = [assign (.Subscript (.Name x p1) ix tpos) X.env] := by rfl) : HS1 X W (.Assign [.Subscript (.Name x p1) ix tpos] e pos) [i] (sSet i f g) :=
  ⟨PS.imp (ps_asg he.pe (pg_sub (pe_var hN hv hd hcd) hi.pe set_list ha) hs hw h1) fun D σ H ⟨F, Gs, Hs, ρ, r, p⟩ => ⟨F, Gs, Hs, ρ, r, (postS_seq r p).imp fun v H1 ⟨Hs1, d, g1, hd', p1⟩ => by
    split at p1
    · rename_i xs eq
      have r1 := r.grow g1
      obtain ⟨q, vs, e1, a1, a2, a3, _⟩ := r1.put (xs' := []) eq
      refine ⟨.ref q, e1, F, Gs, Hs1, ρ, r1, (postS_seq r1 p1).imp fun y H2 ⟨Hs2, z, g2, hz, p2⟩ => ?_⟩
      have r2 := r1.grow g2
      have hz : Is _ _ _ _ := hz
      unfold kSet at p2
      cases z with
      | int kk =>
        dsimp only at p2
        cases zz : ixN xs.length kk with
        | none => rw [zz] at p2; exact p2.elim
        | some jj =>
          rw [zz] at p2
          simp only [Is] at hz
          obtain ⟨q', vs1, e2, b1, b2, b3, b4⟩ := r2.put (xs' := xs.set jj d) eq
          rw [e1] at e2
          cases e2
          exact ⟨q, vs1, kk, jj, rfl, hz, b1, by rw [b3.len]; exact zz, p2 σ Hs2 _ (b4 _ (b3.set jj (Is.mono g2.s d hd'))) (Ex.refl _) fun _ _ => rfl⟩
      | _ => exact p2.elim
    · exact p1.elim⟩, fun ρ ρ' e j hj => by
    obtain ⟨d, _, e⟩ := bind_next e
    split at e
    · obtain ⟨z, _, e⟩ := bind_next e
      obtain ⟨ys, _, e⟩ := bind_next e
      cases e; exact congrArg mq (set_out hj)
    · cases e⟩
end
end G

set_option Elab.async false
set_option linter.all false
set_option maxRecDepth 100000
set_option maxHeartbeats 2000000
namespace G
open PySem PySem.Spec L2
open Evl (Ex ex_l ex_t ex_rd)
section
variable {X : Cx} {W : WX} {tg iter elt e a b c : Expr} {es : List Expr} {pos p1 p2 : Pos} {x : Str}
/-! ### list(..), tuple(..) -/
def listS : List D → Out S
  | [.lst xs] => .ok (.l xs)
  | [.tup xs] => .ok (.l xs)
  | _ => .stuck
def tupleD : List D → Out D
  | [.lst xs] => .ok (.tup xs)
  | [.tup xs] => .ok (.tup xs)
  | _ => .stuck
theorem he_list {f : Env → Out (List D)} (hm : X.mg "list" = none) (ha : HA X W (e :: es) f) (hg : Gl X "list" := by rfl)
    (hs : starEach (e :: es) X.env = (false, eval e X.env) :: starEach es X.env := by rfl) (hpl : (backTo pos (starEach es X.env)).any (·.1) = false := by rfl) : HE X W (.Call (.Name "list" p1) (e :: es) [] pos) (dA listS f) :=
  ⟨PE.imp (pe_callTy call_list_of hg hm (by decide +kernel) ha.pa (by decide) (by decide) hs hpl) fun σ H Q ⟨F, Gs, Hs, ρ, r, p⟩ => ⟨F, Gs, Hs, ρ, r, (Post.seq anti_E p).imp fun vs H1 ⟨Hs1, ds, g1, h1, p1⟩ => by
    have h1 : IsAll _ _ _ _ := h1
    unfold listS at p1
    split at p1
    · obtain ⟨v, rfl, h⟩ := isAll1 h1
      simp only [Is] at h
      obtain ⟨t, us, rfl, ht, hu⟩ := h
      exact ⟨t, us, rfl, .inl (SqL.of (g1.sh _ _ ht)), fun q hq => p1.later (grow_own g1.sh hq) (rs_new g1.sh hq hu)⟩
    · obtain ⟨v, rfl, h⟩ := isAll1 h1
      simp only [Is] at h
      obtain ⟨t, us, rfl, ht, hu⟩ := h
      exact ⟨t, us, rfl, .inr (ex_t g1.sh ht), fun q hq => p1.later (grow_own g1.sh hq) (rs_new g1.sh hq hu)⟩
    · exact p1.elim⟩⟩
theorem hd_tuple {f : Env → Out (List D)} (hm : X.mg "tuple" = none) (ha : HA X W (e :: es) f) (hg : Gl X "tuple" := by rfl)
    (hs : starEach (e :: es) X.env = (false, eval e X.env) :: starEach es X.env := by rfl) (hpl : (backTo pos (starEach es X.env)).any (·.1) = false := by rfl) : HD X W (.Call (.Name "tuple" p1) (e :: es) [] pos) (dA tupleD f) :=
  ⟨PE.imp (pe_callTy call_tuple_of hg hm (by decide +kernel) ha.pa (by decide) (by decide) hs hpl) fun σ H Q ⟨F, Gs, Hs, ρ, r, p⟩ => ⟨F, Gs, Hs, ρ, r, (Post.seq anti_D p).imp fun vs H1 ⟨Hs1, ds, g1, h1, p1⟩ => by
    have h1 : IsAll _ _ _ _ := h1
    unfold tupleD at p1
    split at p1
    · obtain ⟨v, rfl, h⟩ := isAll1 h1
      simp only [Is] at h
      obtain ⟨t, us, rfl, ht, hu⟩ := h
      exact ⟨t, us, rfl, .inl ⟨SqL.of (g1.sh _ _ ht), fun q hq => p1.later (grow_new g1.sh hq) (is_tup_new g1.sh hq hu)⟩⟩
    · obtain ⟨v, rfl, h⟩ := isAll1 h1
      simp only [Is] at h
      obtain ⟨t, us, rfl, ht, hu⟩ := h
      exact ⟨t, us, rfl, .inr ⟨ex_t g1.sh ht, p1.now g1.sh (by show Is _ _ _ _; simp only [Is]; exact ⟨t, us, rfl, ht, hu⟩)⟩⟩
    · exact p1.elim⟩⟩
/-! ### isinstance -/
def tyN : D → String
  | .non => "NoneType"
  | .bl _ => "bool"
  | .int _ => "int"
  | .str _ => "str"
  | .lst _ => "list"
  | .tup _ => "tuple"
  | .scr _ => "?"
def isiD (T : String) (d : D) : Out D := guard' (tyN d ≠ "?") (oOf ((kitB (tyN d) T).map .bl))
theorem tyX_of {K : PySem.W.Frag} {H : Hp} {d : D} {v : V} (h : Is K H d v) (hs : tyN d ≠ "?") : TyX K H v (.type (tyN d)) := by
  cases d with
  | non => simp only [Is] at h; subst h; exact .base .non
  | bl b => simp only [Is] at h; subst h; exact .base (.bl b)
  | int b => simp only [Is] at h; subst h; exact .base (.int b)
  | str b => simp only [Is] at h; subst h; exact .base (.str b)
  | lst xs =>
    simp only [Is] at h
    obtain ⟨t, us, rfl, ht, _⟩ := h
    exact .base (.lst ht)
  | tup xs =>
    simp only [Is] at h
    obtain ⟨t, us, rfl, ht, _⟩ := h
    rcases ht with (ht | ⟨o, ht⟩) | ⟨o, its, n, hk, hc, _⟩
    · exact .base (.tup ht)
    · exact .fTuple ht
    · exact .kTuple hk hc
  | scr _ => exact absurd rfl hs
theorem hd_isi (T : String) {f : Env → Out D} {n : Str} (hm : X.mg "isinstance" = none) (hT : X.mg n = none) (ha : HB X W a f) (hv : bootBuiltins n = some (.type T) := by decide +kernel) (hn : n ≠ "__name__" := by decide) (hdb : (n == ("__debug__" : Str)) = false := by decide) (hg : Gl X "isinstance" := by rfl) (hgn : Gl X n := by rfl)
    (hs : starEach [a, .Name n p2] X.env = (false, eval a X.env) :: starEach [.Name n p2] X.env := by rfl) (hs2 : starEach [.Name n p2] X.env = (false, eval (.Name n p2) X.env) :: starEach [] X.env := by rfl) (hpl : (backTo pos (starEach [.Name n p2] X.env)).any (·.1) = false := by rfl) : HD X W (.Call (.Name "isinstance" p1) [a, .Name n p2] [] pos) (d1 (isiD T) f) :=
  ⟨PE.imp (pe_callB call_isi hg hm (by decide +kernel) (pa_cons ha.pe (pa_cons (pe_bltn (v := .ty T) hgn hT hv rfl hn hdb) pa_nil hs2) hs) (by decide) (by decide) hs hpl) fun σ H Q ⟨F, Gs, Hs, ρ, r, p⟩ => ⟨F, Gs, Hs, ρ, r, (Post.seq anti_D p).imp fun v H1 ⟨Hs1, d, g1, h1, p1⟩ => by
    obtain ⟨hq, p1⟩ := guard_ok p1
    obtain ⟨d', e1, p1⟩ := oOf_ok p1
    cases q : kitB (tyN d) T with
    | none => rw [q] at e1; cases e1
    | some b =>
      rw [q] at e1
      have e2 : D.bl b = d' := by simpa using e1
      subst e2
      exact ⟨v, .ty T, .type (tyN d), .type T, b, rfl, .ty T, tyX_of h1 hq, kit_ty q, p1.now g1.sh isB⟩⟩⟩
/-! ### in, not in -/
theorem op_inP (hu : X.A.units + 64 < cLine) : OpR X (compareOp .In) (fun x y H Q => ∃ d ds, Is X.K H d x ∧ (Is X.K H (.tup ds) y ∨ Is X.K H (.lst ds) y) ∧ shal 40 d = true ∧ Q (.bl (ds.any fun z => eqv z d)) H) := by
  intro pins s σ H x y v u Q I rx ry h
  obtain ⟨d, ds, hd, he, hsh, q⟩ := h
  have hdp := shal_depth d 40 hsh
  obtain ⟨as, r1⟩ := Dp.reads I _ x v (is_dp d hd) rx
  have ha : (pyAll ds).any (fun y => PyData.eqv y (py d)) = ds.any fun z => eqv z d := by
    clear he q
    induction ds with
    | nil => simp only [pyAll, List.any_nil]
    | cons a r ih => simp only [pyAll, List.any_cons, ih]; rfl
  rcases he with he | he
  · obtain ⟨bs, r2⟩ := Dp.reads I _ y u (is_dp _ he) ry
    have r2 : Reads s.heap u (.tuple (pyAll ds)) bs := by have := r2; simp only [py] at this; exact this
    exact SeqAt.in_tuple_data r2 r1 (pyAll_plain ds) (py_plain d) (by omega) ⟨.bl _, H, I, by rw [ha]; rfl, q⟩
  · obtain ⟨bs, r2⟩ := Dp.reads I _ y u (is_dp _ he) ry
    have r2 : Reads s.heap u (.list (pyAll ds)) bs := by have := r2; simp only [py] at this; exact this
    exact SeqAt.in_list_data r2 r1 (pyAll_plain ds) (py_plain d) (by omega) ⟨.bl _, H, I, by rw [ha]; rfl, q⟩
theorem op_notinP (hu : X.A.units + 64 < cLine) : OpR X (compareOp .NotIn) (fun x y H Q => ∃ d ds, Is X.K H d x ∧ (Is X.K H (.tup ds) y ∨ Is X.K H (.lst ds) y) ∧ shal 40 d = true ∧ Q (.bl (!ds.any fun z => eqv z d)) H) := by
  intro pins s σ H x y v u Q I rx ry h
  obtain ⟨d, ds, hd, he, hsh, q⟩ := h
  have hdp := shal_depth d 40 hsh
  obtain ⟨as, r1⟩ := Dp.reads I _ x v (is_dp d hd) rx
  have ha : (pyAll ds).any (fun y => PyData.eqv y (py d)) = ds.any fun z => eqv z d := by
    clear he q
    induction ds with
    | nil => simp only [pyAll, List.any_nil]
    | cons a r ih => simp only [pyAll, List.any_cons, ih]; rfl
  rcases he with he | he
  · obtain ⟨bs, r2⟩ := Dp.reads I _ y u (is_dp _ he) ry
    have r2 : Reads s.heap u (.tuple (pyAll ds)) bs := by have := r2; simp only [py] at this; exact this
    exact SeqAt.notIn_tuple_data r2 r1 (pyAll_plain ds) (py_plain d) (by omega) ⟨.bl _, H, I, by rw [ha]; rfl, q⟩
  · obtain ⟨bs, r2⟩ := Dp.reads I _ y u (is_dp _ he) ry
    have r2 : Reads s.heap u (.list (pyAll ds)) bs := by have := r2; simp only [py] at this; exact this
    exact SeqAt.notIn_list_data r2 r1 (pyAll_plain ds) (py_plain d) (by omega) ⟨.bl _, H, I, by rw [ha]; rfl, q⟩
def inStr (j i : Str) : Bool := !(Builtin.Str.occurrences j i 0 j.length 1).isEmpty
def inD (x y : D) : Out D := match y with
  | .tup ds => guard' (shal 40 x = true) (.ok (.bl (ds.any fun z => eqv z x)))
  | .lst ds => guard' (shal 40 x = true) (.ok (.bl (ds.any fun z => eqv z x)))
  | .str j => match x with
    | .str i => .ok (.bl (inStr j i))
    | _ => .stuck
  | _ => .stuck
def notinD (x y : D) : Out D := match y with
  | .tup ds => guard' (shal 40 x = true) (.ok (.bl (!ds.any fun z => eqv z x)))
  | .lst ds => guard' (shal 40 x = true) (.ok (.bl (!ds.any fun z => eqv z x)))
  | .str j => match x with
    | .str i => .ok (.bl (!inStr j i))
    | _ => .stuck
  | _ => .stuck
theorem opb_in : OpB X (fun x y H Q => (∃ d ds, Is X.K H d x ∧ (Is X.K H (.tup ds) y ∨ Is X.K H (.lst ds) y) ∧ shal 40 d = true ∧ Q (.bl (ds.any fun z => eqv z d)) H) ∨ (∃ i j, x = .str i ∧ y = .str j ∧ Q (.bl (!(Builtin.Str.occurrences j i 0 j.length 1).isEmpty)) H)) inD := fun W σ a b x y Hs H Q e ha hb p => by
  unfold inD at p
  cases b with
  | tup ds => obtain ⟨ok, p⟩ := guard_ok p; exact .inl ⟨a, ds, ha, .inl hb, ok, p.now e isB⟩
  | lst ds => obtain ⟨ok, p⟩ := guard_ok p; exact .inl ⟨a, ds, ha, .inr hb, ok, p.now e isB⟩
  | str j =>
    cases a with
    | str i => simp only [Is] at ha hb; exact .inr ⟨i, j, ha, hb, p.now e isB⟩
    | _ => exact p.elim
  | _ => exact p.elim
theorem opb_notin : OpB X (fun x y H Q => (∃ d ds, Is X.K H d x ∧ (Is X.K H (.tup ds) y ∨ Is X.K H (.lst ds) y) ∧ shal 40 d = true ∧ Q (.bl (!ds.any fun z => eqv z d)) H) ∨ (∃ i j, x = .str i ∧ y = .str j ∧ Q (.bl (!(!(Builtin.Str.occurrences j i 0 j.length 1).isEmpty))) H)) notinD := fun W σ a b x y Hs H Q e ha hb p => by
  unfold notinD at p
  cases b with
  | tup ds => obtain ⟨ok, p⟩ := guard_ok p; exact .inl ⟨a, ds, ha, .inl hb, ok, p.now e isB⟩
  | lst ds => obtain ⟨ok, p⟩ := guard_ok p; exact .inl ⟨a, ds, ha, .inr hb, ok, p.now e isB⟩
  | str j =>
    cases a with
    | str i => simp only [Is] at ha hb; exact .inr ⟨i, j, ha, hb, p.now e isB⟩
    | _ => exact p.elim
  | _ => exact p.elim
theorem hd_in (hu : X.A.units + 64 < cLine) {f g : Env → Out D} (ha : HD X W a f) (hb : HD X W b g) (hm : behindInMarks .In b = false) : HD X W (.Compare a [.In] [b] pos) (d2 inD f g) := hd_cmp ((op_inP hu).or op_in_str) opb_in.d ha hb hm
theorem ht_in (hu : X.A.units + 64 < cLine) {f g : Env → Out D} (ha : HD X W a f) (hb : HD X W b g) (hm : behindInMarks .In b = false) : HT X W (.Compare a [.In] [b] pos) (d1 toB (d2 inD f g)) := ht_cmp ((op_inP hu).or op_in_str) opb_in.d ha hb hm
theorem hd_notin (hu : X.A.units + 64 < cLine) {f g : Env → Out D} (ha : HD X W a f) (hb : HD X W b g) (hm : behindInMarks .NotIn b = false) : HD X W (.Compare a [.NotIn] [b] pos) (d2 notinD f g) := hd_cmp ((op_notinP hu).or op_notin_str) opb_notin.d ha hb hm
theorem ht_notin (hu : X.A.units + 64 < cLine) {f g : Env → Out D} (ha : HD X W a f) (hb : HD X W b g) (hm : behindInMarks .NotIn b = false) : HT X W (.Compare a [.NotIn] [b] pos) (d1 toB (d2 notinD f g)) := ht_cmp ((op_notinP hu).or op_notin_str) opb_notin.d ha hb hm
/-! ### is None -/
def isNo : D → Bool
  | .non => true
  | _ => false
theorem isNo_v {K : PySem.W.Frag} {H : Hp} {d : D} {v : V} (h : Is K H d v) : decide (v = .non) = isNo d := by
  cases d with
  | non => simp only [Is] at h; subst h; rfl
  | bl _ => simp only [Is] at h; subst h; rfl
  | int _ => simp only [Is] at h; subst h; rfl
  | str _ => simp only [Is] at h; subst h; rfl
  | lst _ => simp only [Is] at h; obtain ⟨_, _, rfl, _⟩ := h; rfl
  | tup _ => simp only [Is] at h; obtain ⟨_, _, rfl, _⟩ := h; rfl
  | scr _ => simp only [Is] at h; obtain ⟨_, rfl, _⟩ := h; rfl
def isND (d : D) : Out D := .ok (.bl (isNo d))
def isnotND (d : D) : Out D := .ok (.bl (!isNo d))
variable {j : Nat}
theorem isN_read {f : Env → Out D} {σ : St} {H : Hp} {Q : VK} (h : tG (RD X.K) X.K X.mg W (d1 isND f) σ H Q) : tIsN (tG (RB X.K) X.K X.mg W f) σ H Q := by
  obtain ⟨F, Gs, Hs, ρ, r, p⟩ := h
  exact ⟨F, Gs, Hs, ρ, r, (Post.seq anti_D p).imp fun v H1 ⟨Hs1, d, g1, h1, p1⟩ => by rw [isNo_v h1]; exact p1.now g1.sh isB⟩
theorem isnotN_read {f : Env → Out D} {σ : St} {H : Hp} {Q : VK} (h : tG (RD X.K) X.K X.mg W (d1 isnotND f) σ H Q) : tNotN (tG (RB X.K) X.K X.mg W f) σ H Q := by
  obtain ⟨F, Gs, Hs, ρ, r, p⟩ := h
  exact ⟨F, Gs, Hs, ρ, r, (Post.seq anti_D p).imp fun v H1 ⟨Hs1, d, g1, h1, p1⟩ => by rw [isNo_v h1]; exact p1.now g1.sh isB⟩
theorem hd_isN {f : Env → Out D} (h : HB X W a f) : HD X W (.Compare a [.Is] [.Constant .none j p1] pos) (d1 isND f) := ⟨PE.imp (pe_cmp (pc_isN h.pe) rfl) fun σ H Q q => isN_read q⟩
theorem hd_isnotN {f : Env → Out D} (h : HB X W a f) : HD X W (.Compare a [.IsNot] [.Constant .none j p1] pos) (d1 isnotND f) := ⟨PE.imp (pe_cmp (pc_notN h.pe) rfl) fun σ H Q q => isnotN_read q⟩
theorem ht_isN {f : Env → Out D} (h : HB X W a f) : HT X W (.Compare a [.Is] [.Constant .none j p1] pos) (d1 toB (d1 isND f)) := ⟨PT.imp (pt_cmp (pc_isN h.pe) rfl) fun σ H Q q => isN_read (test_read q)⟩
theorem ht_isnotN {f : Env → Out D} (h : HB X W a f) : HT X W (.Compare a [.IsNot] [.Constant .none j p1] pos) (d1 toB (d1 isnotND f)) := ⟨PT.imp (pt_cmp (pc_notN h.pe) rfl) fun σ H Q q => isnotN_read (test_read q)⟩
/-- .. of a slot that may hold an exception -/
def isNS : S → Out D
  | .d d => .ok (.bl (isNo d))
  | .x _ _ => .ok (.bl false)
  | .o _ _ => .ok (.bl false)
  | _ => .stuck
def isnotNS : S → Out D
  | .d d => .ok (.bl (!isNo d))
  | .x _ _ => .ok (.bl true)
  | .o _ _ => .ok (.bl true)
  | _ => .stuck
theorem isNS_read {f : Env → Out S} {σ : St} {H : Hp} {Q : VK} (h : tG (RD X.K) X.K X.mg W (dA isNS f) σ H Q) : tIsN (tG (RS X.K X.mg) X.K X.mg W f) σ H Q := by
  obtain ⟨F, Gs, Hs, ρ, r, p⟩ := h
  refine ⟨F, Gs, Hs, ρ, r, (Post.seq anti_D p).imp fun v H1 ⟨Hs1, d, g1, h1, p1⟩ => ?_⟩
  cases d with
  | d d => rw [isNo_v h1.2]; exact p1.now g1.sh isB
  | x _ _ => obtain ⟨_, _, _, _, rfl, _⟩ := h1; exact p1.now g1.sh isB
  | o _ _ => obtain ⟨_, _, _, _, _, rfl, _⟩ := h1; exact p1.now g1.sh isB
  | _ => exact p1.elim
theorem isnotNS_read {f : Env → Out S} {σ : St} {H : Hp} {Q : VK} (h : tG (RD X.K) X.K X.mg W (dA isnotNS f) σ H Q) : tNotN (tG (RS X.K X.mg) X.K X.mg W f) σ H Q := by
  obtain ⟨F, Gs, Hs, ρ, r, p⟩ := h
  refine ⟨F, Gs, Hs, ρ, r, (Post.seq anti_D p).imp fun v H1 ⟨Hs1, d, g1, h1, p1⟩ => ?_⟩
  cases d with
  | d d => rw [isNo_v h1.2]; exact p1.now g1.sh isB
  | x _ _ => obtain ⟨_, _, _, _, rfl, _⟩ := h1; exact p1.now g1.sh isB
  | o _ _ => obtain ⟨_, _, _, _, _, rfl, _⟩ := h1; exact p1.now g1.sh isB
  | _ => exact p1.elim
theorem hd_isNV {f : Env → Out S} (h : HV X W a f) : HD X W (.Compare a [.Is] [.Constant .none j p1] pos) (dA isNS f) := ⟨PE.imp (pe_cmp (pc_isN h.pe) rfl) fun σ H Q q => isNS_read q⟩
theorem hd_isnotNV {f : Env → Out S} (h : HV X W a f) : HD X W (.Compare a [.IsNot] [.Constant .none j p1] pos) (dA isnotNS f) := ⟨PE.imp (pe_cmp (pc_notN h.pe) rfl) fun σ H Q q => isnotNS_read q⟩
theorem ht_isNV {f : Env → Out S} (h : HV X W a f) : HT X W (.Compare a [.Is] [.Constant .none j p1] pos) (d1 toB (dA isNS f)) := ⟨PT.imp (pt_cmp (pc_isN h.pe) rfl) fun σ H Q q => isNS_read (test_read q)⟩
theorem ht_isnotNV {f : Env → Out S} (h : HV X W a f) : HT X W (.Compare a [.IsNot] [.Constant .none j p1] pos) (d1 toB (dA isnotNS f)) := ⟨PT.imp (pt_cmp (pc_notN h.pe) rfl) fun σ H Q q => isnotNS_read (test_read q)⟩
end
end G

set_option Elab.async false
set_option linter.all false
set_option maxRecDepth 100000
set_option maxHeartbeats 2000000
namespace G
open PySem PySem.Spec L2
open Evl (Ex ex_l ex_t ex_rd)

/-! ### try: .. except GlyphError as e: kept = e -/
/-- an object that the frame came to know is tracked from now on -/
theorem track {X : Cx} {pins : List (Addr × Obj)} {σ : St} {H : Hp} {s : Shared} {a : Addr} {o : HO} (I : Inv X pins σ H s) (na : H a = none) (h0 : X.s_0.heap.get? a = none) (nL : a ≠ X.env.locals) (nc : ∀ x c, X.env.cells.lookup x = some c → c ≠ a)
    (np : ∀ p ∈ X.pn ++ pins, p.1 ≠ a) (new : ObjOk X.prog X.w (upd H a o) s.heap a o) : Inv X pins σ (upd H a o) s := by
  have ne : ∀ b u, H b = some u → b ≠ a := fun b u e => ne_of_none e na
  refine ⟨I.ok, I.os, I.bare, ⟨I.base.keep, I.base.slot, fun b u e n hx => ?_, I.base.there, fun b xs e => ?_, fun b u v e => ?_, fun b ps e => ?_⟩, I.loc, I.cell, ?_, fun x c e => ?_, fun p hp => ?_, I.hok.laidN (fun _ _ e => e) na new, I.len⟩
  · rw [upd_ne fun z => by rw [z, h0] at e; cases e]
    exact I.base.free b u e n hx
  · have q := I.base.tups b xs e
    rw [upd_ne (ne b _ q)]; exact q
  · have q := I.base.frzs b u v e
    rw [upd_ne (ne b _ q)]; exact q
  · obtain ⟨m, q⟩ := I.base.tbls b ps e
    exact ⟨m, by rw [upd_ne (ne b _ q)]; exact q⟩
  · rw [upd_ne (Ne.symm nL)]; exact I.free
  · rw [upd_ne (nc x c e)]; exact I.freeC x c e
  · obtain ⟨q1, q2, q3⟩ := I.pin p hp
    exact ⟨q1, by rw [upd_ne (np p hp)]; exact q2, q3⟩
theorem exV_ok {P : Program} {w : World} {H : Hp} {h : Heap} {a : Addr} {cls : Value} {d : Option Addr} {oe : Obj} {vs : Array Value} (e : h.get? a = some oe) (z : Zc cls d oe) (q : oe.data = .fields vs) : ObjOk P w H h a (ExV cls d a) :=
  ⟨⟨oe, vs, e, z, q⟩, ⟨oe, e⟩, fun _ _ ⟨o, v, h1, h2, h3⟩ k => ⟨o, v, k o h1, h2, h3⟩⟩
/-- what the clause wishes -/
def wKeep (K : PySem.W.Frag) (c : Value) (i j : Nat) (Wout : WX) (D : Ends) : WX := fun cls d σ H =>
  ∃ b, PySem.W.exmOne K cls c = some b ∧ (b = true → ∀ a, H a = none → D.nx (((σ.set i (some (.ref a))).set j (some (.ref a))).set i none) (upd H a (ExV cls d a))) ∧ (b = false → Wout cls d σ H)
section
variable {X : Cx} {x n y : Str} {c : Value} {i j : Nat} {body : List Stmt} {np pos pos' q1 q2 q3 : Pos} {tb : WX → TS} {Wout : WX}
theorem ps_try_keep (hs : X.stack = X.env :: X.outer) (hf : X.env.frame = some X.env.locals) (hN : X.N.Nodup) (hi : X.N[i]? = some n) (hln : X.env.kindOf n = some .local) (hj : X.N[j]? = some y) (hlj : Loc X.env.scope y) (hfj : X.fn y = true ∨ X.env.scope.names.lookup y = some .local) (hc : Names X x c) (tk : Takes X Wout)
    (hex : X.ex = []) (hsw : swapsWith (.Name n q2) (some (.Name y q1)) q3.line X.env = pure false) (hnd : (n == ("__debug__" : Str)) = false) (hncd : (n == ("__classdict__" : Str)) = false)
    (hb : ∀ (W : WX) (pn : List (Addr × Obj)) (xe : Value → Shared → Prop), Takes (X.tr pn xe) W → PassesOwn (model X.prog X.w) X.A X.env xe → PSs (X.tr pn xe) body (tb W)) :
    PS X (.Try body [.ExceptHandler (some (.Name x np)) (some n) [.Assign [.Name y q1] (.Name n q2) q3] pos'] [] [] pos) (fun D σ H => tb (wKeep X.K c i j Wout D) D σ H) := by
  refine ⟨fun pins s σ H D I h => ?_⟩
  have ok := I.ok
  have hfr : X.A.frames = some (X.env :: X.outer) := by rw [ok.frames, hs]
  have hloc : Loc X.env.scope n := .inl hln
  refine wpAny_Try_except ?_
  refine wpAny_mono ((hb (wKeep X.K c i j Wout D) (X.pn ++ pins) (fun e s₁ => wpAny (model X.prog X.w) X.A (noteFrame e X.env) (fun _ s₂ => wpAny (model X.prog X.w) X.A (setFlight e none) (fun _ s₃ =>
    wpAny (model X.prog X.w) X.A (handleBy e X.env [.ExceptHandler (some (.Name x np)) (some n) [.Assign [.Name y q1] (.Name n q2) q3] pos']) (SP X pins D) X.xe s₃) X.xe s₂) X.xe s₁) (fun u s' xx => ?_) PassesOwn.looking).run [] s σ H D (I.toTry _) h) (fun f s1 hsp => ?_) (fun e s1 he => he)
  · obtain ⟨a, B, sI, pins', σ', H', cls, d, rfl, J', nb, up, sky, na, os, ag, b, hb1, hyes, hno⟩ := xx
    have J : Inv X pins σ' H' sI := J'.ofTry ok
    have sky' : Sky B (X.env :: X.outer) a (Zc cls d) X.env.locals s'.heap := by rw [← hs]; exact sky
    show wpAny (model X.prog X.w) X.A (noteFrame (.ref a) X.env) _ _ _
    refine Sky.land Zc.steady hfr hf sky' fun h3 fl3 up3 => ?_
    have J3 : Inv X pins σ' H' { s' with heap := h3 } := J.landed nb fl3.1 (up.trans up3) os ag
    obtain ⟨oe3, vs3, he3, hz3, hd3⟩ := fl3.there
    have notFr : ∀ {h : Heap} {o : Obj} {vs : Array Value}, h.FunFrames B (X.env :: X.outer) → h.get? a = some o → o.data = .fields vs → a ∉ frs (X.env :: X.outer) := fun {h o vs} ff e dd hm => by
      obtain ⟨_, o', e', hnf⟩ := ff.mem hm
      rw [e] at e'; cases e'
      exact hnf _ dd
    have nfr := notFr fl3.2.2.1 he3 hd3
    have nL : a ≠ X.env.locals := fun z => nfr (List.mem_filterMap.mpr ⟨X.env, List.mem_cons_self, by rw [hf, z]⟩)
    have nF : a ∉ X.fs := fun hm => by
      obtain ⟨e, he, q⟩ := List.mem_filterMap.mp hm
      exact nfr (List.mem_filterMap.mpr ⟨e, List.mem_cons_of_mem _ he, q⟩)
    have nI : sI.heap.get? a = none := by
      cases q : sI.heap.get? a with
      | none => rfl
      | some o =>
        have z := nb a o q (by rw [hs]; exact nfr)
        rw [fl3.2.1] at z; cases z
    have n0 : X.s_0.heap.get? a = none := by
      cases q : X.s_0.heap.get? a with
      | none => rfl
      | some o =>
        by_cases hx : a ∈ X.ex
        · rw [hex] at hx; cases hx
        · obtain ⟨o', e'⟩ := J.base.there a o q hx
          rw [nI] at e'; cases e'
    have S3 := J3.suite he3 hd3 na nL nF
    refine wpAny_handleBy_cons (codeAny_handlers_test ?_) (by intro q; cases q)
    have LT : PySem.W.Looks (model X.prog X.w) h3 (typeOf (.ref a)) cls := fun A Q E s k q => wpAny_typeOf_ref (k _ _ he3) (by rw [hz3.1]; exact q)
    have LM := PySem.W.exm_one (M := model X.prog X.w) (J3.kIn) LT hb1
    have test : ∀ {Q : Value → Shared → Prop} {E : Value → Shared → Prop}, Q c { s' with heap := h3 } → wpAny (model X.prog X.w) (X.A.mark (some (.ref a))) (eval (.Name x np) X.env) Q E { s' with heap := h3 } := fun {Q E} q => by
      obtain ⟨hg, hdbg, hm | ⟨hm, hv, hnn⟩⟩ := hc
      · exact ld_glob (X := X.suite a ((a, oe3) :: (X.pn ++ pins))) S3 hg hm q hdbg
      · exact ld_blt (X := X.suite a ((a, oe3) :: (X.pn ++ pins))) S3 hg hm hv q hnn hdbg
    refine test (LM.here ?_)
    cases b with
    | true =>
      refine PySem.codeAny_handlers_suite_as ?_
      refine HandSPX.lands_againZ fl3 fun h4 fl4 up4 => ?_
      have J4 : Inv X pins σ' H' { s' with heap := h4 } := J.landed nb fl4.1 ((up.trans up3).trans up4) os ag
      obtain ⟨oe4, vs4, he4, hz4, hd4⟩ := fl4.there
      have S4 := J4.suite he4 hd4 na nL nF
      refine store_ok (X := X.suite a ((a, oe4) :: (X.pn ++ pins))) (v := .ref a) S4 hN hi hloc rfl (fun s5 S5 => ?_) (.inr hln)
      have hiσ : i < σ'.length := by rw [J.len]; exact (List.getElem?_eq_some_iff.mp hi).1
      have sset : PSs (X.suite a ((a, oe4) :: (X.pn ++ pins))) [.Assign [.Name y q1] (.Name n q2) q3] (tAsg (tVar i) (gName j)) := pss_one (ps_set (X := X.suite a ((a, oe4) :: (X.pn ++ pins))) hN hj hlj (pe_var (X := X.suite a ((a, oe4) :: (X.pn ++ pins))) hi (.inl hln) hnd hncd) hsw hfj)
      refine wpAny_mono (sset.run [] s5 _ H' { nx := fun σ'' H'' => σ'' = (σ'.set i (some (.ref a))).set j (some (.ref a)) ∧ H'' = H', rt := fun _ _ => False } S5 ⟨.ref a, List.getElem?_set_self hiσ, rfl, rfl⟩) (fun f s6 hsp => ?_) (fun _ _ z => False.elim z)
      cases f with
      | next =>
        obtain ⟨σ6, H6, S6, e6, e7⟩ := hsp
        subst e7
        have U6 : Inv X pins σ6 H6 s6 := S6.unsuite ok
        obtain ⟨pg, _⟩ := S6.pin (a, oe4) (List.mem_append_left _ List.mem_cons_self)
        have T6 : Inv X pins σ6 (upd H6 a (ExV cls d a)) s6 := by
          refine track U6 na n0 nL (fun x' c' e z => ?_) (fun p hp z => ?_) (exV_ok pg hz4 hd4)
          · obtain ⟨v, o', ho, hd⟩ := U6.cell x' c' e
            rw [z, pg] at ho; cases ho
            rw [hd4] at hd; cases hd
          · obtain ⟨z1, _⟩ := J.pin p hp
            rw [z, nI] at z1; cases z1
        exact gone_ok T6 hN hi hln fun s7 J7 => ⟨_, _, J7, by rw [e6]; exact hyes rfl a na⟩
      | brk => obtain ⟨σ6, H6, S6, q⟩ := hsp; exact q.elim
      | cont => obtain ⟨σ6, H6, S6, q⟩ := hsp; exact q.elim
      | ret u => obtain ⟨v, σ6, H6, S6, r6, q⟩ := hsp; exact q.elim
    | false =>
      show wpAny _ X.A (handleBy (.ref a) X.env []) _ _ _
      refine wpAny_handleBy_nil ?_
      obtain ⟨k1, k2, k3, oe, vs, T, oT, ts', he, hz, hd, h1, hr⟩ := id fl3
      unfold PySem.passOn
      refine wpAny_bind (wpAny_field he hd h1 ?_)
      rw [if_neg (show ¬ ((Value.ref T == Value.none) = true) from by simp)]
      have fin : wpAny (model X.prog X.w) X.A (setFlight (.ref a) X.env.frame) (fun _ s4 => wpAny (model X.prog X.w) X.A (throw (.ref a) : Sem Flow) (SP X pins D) X.xe s4) X.xe { s' with heap := h3 } := by
        rw [hf]
        refine HandSPX.setFlight_upZ fl3 fun h4 hh4 up4 => wpAny_throw (tk _ _ ?_)
        exact ⟨a, B, sI, pins, σ', H', cls, d, rfl, J, nb, (up.trans up3).trans up4, .inr (.inr (by rw [hs]; exact hh4)), na, os, ag, hno rfl⟩
      first
        | exact wpAny_bind (wpAny_pure (wpAny_bind fin))
        | exact wpAny_bind fin
  · cases f with
    | next =>
      obtain ⟨σ', H', J', q⟩ := hsp
      exact wpAny_execs_nil ⟨σ', H', J'.ofTry ok, q⟩
    | brk =>
      obtain ⟨σ', H', J', q⟩ := hsp
      exact ⟨σ', H', J'.ofTry ok, q⟩
    | cont =>
      obtain ⟨σ', H', J', q⟩ := hsp
      exact ⟨σ', H', J'.ofTry ok, q⟩
    | ret u =>
      obtain ⟨v, σ', H', J', r, q⟩ := hsp
      exact ⟨v, σ', H', J'.ofTry ok, r, q⟩
end
end G

set_option Elab.async false
set_option linter.all false
set_option maxRecDepth 100000
set_option maxHeartbeats 2000000
namespace G
open PySem PySem.Spec L2
open Evl (Ex ex_l ex_t ex_rd)

/-! ### a try body: at an exception the slots are as before -/
def PostTr (K : PySem.W.Frag) (mg : Str → Option Value) (W : WX) (asg : List Nat) (F Gs Hs : Hp) (σ : St) (ρ : Env) (r : Out Res) (D : Ends) : Prop := match r with
  | .ok (.next ρ') => ∀ σ' Hs' H', Rep K mg F Gs Hs' H' σ' ρ' → Ex Hs Hs' → (∀ i, i ∉ asg → σ'[i]? = σ[i]?) → D.nx σ' H'
  | .ok (.ret s) => ∀ v Hs' H', Grow Gs F Hs' H' → Rs K mg F Hs' H' s v → D.rt v H'
  | .exc c p => ∀ cls d Hs' H', Rep K mg F Gs Hs' H' σ ρ → Ex Hs Hs' → XIs mg H' c p cls d → W cls d σ H'
  | .stuck => False
def tTr (K : PySem.W.Frag) (mg : Str → Option Value) (W : WX) (asg : List Nat) (f : Env → Out Res) : TS := fun D σ H => ∃ F Gs Hs ρ, Rep K mg F Gs Hs H σ ρ ∧ PostTr K mg W asg F Gs Hs σ ρ (f ρ) D
structure HTr (X : Cx) (W : WX) (sts : List Stmt) (asg : List Nat) (f : Env → Out Res) : Prop where
  pss : PSs X sts (tTr X.K X.mg W asg f)
  fix : Fix asg f
section
variable {X : Cx} {W : WX} {e a b c : Expr} {es : List Expr} {pos : Pos} {st : Stmt} {sts rest : List Stmt} {asg asg' : List Nat} {f g : Env → Out Res} {x : Str} {pos' : Pos}
theorem PostTr.mono {K : PySem.W.Frag} {mg : Str → Option Value} {F Gs Hs Hs' : Hp} {σ : St} {ρ : Env} {r : Out Res} {D : Ends} (h : PostTr K mg W asg F Gs Hs σ ρ r D) (e : Ex Hs Hs') (k : ∀ i, i ∈ asg' → i ∈ asg) : PostTr K mg W asg' F Gs Hs' σ ρ r D := by
  cases r with
  | ok r =>
    cases r with
    | next ρ => exact fun σ2 Hs2 H2 r2 e2 k2 => h σ2 Hs2 H2 r2 (e.trans e2) fun i hi => k2 i fun z => hi (k i z)
    | ret s => exact h
  | exc c p => exact fun cls d Hs2 H2 r2 e2 hx => h cls d Hs2 H2 r2 (e.trans e2) hx
  | stuck => exact h
theorem postTr_seq {α w : Type} {R : Rel α w} {K : PySem.W.Frag} {mg : Str → Option Value} {F Gs Hs H : Hp} {σ : St} {ρ : Env} {r : Out α} {k : α → Out Res} {D : Ends} (rep : Rep K mg F Gs Hs H σ ρ) (h : PostTr K mg W asg F Gs Hs σ ρ (r.bind k) D) :
    Post R mg W σ Hs H r (fun v H1 => ∃ Hs1 a, Grow Hs H Hs1 H1 ∧ R H Hs1 H1 a v ∧ PostTr K mg W asg F Gs Hs1 σ ρ (k a) D) := by
  cases r with
  | ok a => exact fun v Hs2 H2 g2 hr => ⟨Hs2, a, g2, hr, PostTr.mono h g2.s fun _ z => z⟩
  | exc c p => exact fun cls d Hs2 H2 g2 hx => h cls d Hs2 H2 (rep.grow g2) g2.s hx
  | stuck => exact h
theorem htr_expr {f : Env → Out S} (he : HE X W e f) (hs : swapsWith e none pos.line X.env = pure false := by rfl) : HTr X W [.Expr e pos] [] (sDrop f) :=
  ⟨PSs.imp (pss_one (ps_expr he.pe hs)) fun D σ H ⟨F, Gs, Hs, ρ, r, p⟩ => ⟨F, Gs, Hs, ρ, r, (postTr_seq r p).imp fun v H1 ⟨Hs1, d, g1, h1, p1⟩ => p1 σ Hs1 H1 (r.grow g1) (Ex.refl _) fun _ _ => rfl⟩, fun ρ ρ' e i _ => by
    obtain ⟨_, _, e⟩ := bind_next e
    cases e; rfl⟩
theorem htr_asg (i : Nat) {f : Env → Out S} (hN : X.N.Nodup) (hi : X.N[i]? = some x) (hx : Loc X.env.scope x) (he : HE X W e f) (hs : swapsWith e (some (.Name x pos')) pos.line X.env = pure false := by rfl) (hf : X.fn x = true ∨ X.env.scope.names.lookup x = some .local := by first | exact .inl rfl | exact .inr rfl | assumption) :
    HTr X W [.Assign [.Name x pos'] e pos] [i] (sAsgE i f) :=
  ⟨PSs.imp (pss_one (ps_set hN hi hx he.pe hs hf)) fun D σ H ⟨F, Gs, Hs, ρ, r, p⟩ => ⟨F, Gs, Hs, ρ, r, (postTr_seq r p).imp fun v H1 ⟨Hs1, d, g1, h1, p1⟩ => p1 _ Hs1 H1 (r.setR g1 h1) (Ex.refl _) fun j hj => set_out hj⟩, fix_asg⟩
theorem htr_if {t : Env → Out Bool} {as bs : List Stmt} (hc : HT X W c t) (ha : HTr X W as asg f) (hb : HTr X W bs asg' g) : HTr X W [.If c as bs pos] (asg ++ asg') (sIf t f g) :=
  ⟨PSs.imp (pss_one (ps_if hc.pt ha.pss hb.pss)) fun D σ H ⟨F, Gs, Hs, ρ, r, p⟩ => ⟨F, Gs, Hs, ρ, r, (postTr_seq r p).imp fun v H1 ⟨Hs1, d, g1, h1, p1⟩ => by
    obtain rfl : v = d := h1
    cases v with
    | true => rw [if_pos rfl]; rw [if_pos rfl] at p1; exact ⟨F, Gs, Hs1, ρ, r.grow g1, p1.mono (Ex.refl _) fun i hi => List.mem_append_left _ hi⟩
    | false => rw [if_neg Bool.false_ne_true]; rw [if_neg Bool.false_ne_true] at p1; exact ⟨F, Gs, Hs1, ρ, r.grow g1, p1.mono (Ex.refl _) fun i hi => List.mem_append_right _ hi⟩⟩, fun ρ ρ' e i hi => by
    obtain ⟨k, _, e⟩ := bind_next e
    cases k with
    | true => rw [if_pos rfl] at e; exact ha.fix ρ ρ' e i fun z => hi (List.mem_append_left _ z)
    | false => rw [if_neg Bool.false_ne_true] at e; exact hb.fix ρ ρ' e i fun z => hi (List.mem_append_right _ z)⟩
end
/-! ### the classes -/
/-- the classes that carry nothing -/
def exNames : List Str := ["BadOutline", "BadSize", "BadHints", "BadFace", "NoGlyph"]
def exAll : List Str := ["BadText", "BadOutline", "BadSize", "BadHints", "BadFace", "NoGlyph"]
structure XC (K : PySem.W.Frag) (mg : Str → Option Value) (G : Addr) (c : Str) (C : Addr) : Prop where
  g : mg c = some (.ref C)
  m : PySem.W.exmOne K (.ref C) (.ref G) = some true
  e : ExcC K C
structure XF (K : PySem.W.Frag) (mg : Str → Option Value) : Prop where
  ge : ∃ G, mg "GlyphError" = some (.ref G) ∧ ∀ c ∈ exNames, ∃ C, XC K mg G c C
  /-- isinstance by name -/
  is : ∀ c ∈ exNames, ∀ c' ∈ exAll, ∀ C, mg c = some (.ref C) → ∃ C', mg c' = some (.ref C') ∧ PySem.W.kitOne K (.ref C) (.ref C') = some (decide (c = c'))
  iv : ∀ c ∈ exNames, ∀ C, mg c = some (.ref C) → PySem.W.kitOne K (.ref C) (.type "ValueError") = some true
section
variable {K : PySem.W.Frag} {mg : Str → Option Value} {F Gs Hs H : Hp} {σ : St} {ρ : Env}
theorem Rep.junk {i : Nat} {u : Option V} (r : Rep K mg F Gs Hs H σ ρ) : Rep K mg F Gs Hs H (σ.set i u) (ρ.set i none) := by
  obtain ⟨fp, sl⟩ := r.sl
  refine ⟨by rw [List.length_set, List.length_set]; exact r.len, r.gr, fp, fun j s' e => ?_, sl.free, sl.sep, sl.nd⟩
  by_cases hj : j = i
  · subst hj
    have hl : j < ρ.length := by
      have := (List.getElem?_eq_some_iff.mp e).1
      rwa [List.length_set] at this
    rw [List.getElem?_set_self hl] at e
    cases e
  · rw [List.getElem?_set_ne (Ne.symm hj)] at e
    rw [List.getElem?_set_ne (Ne.symm hj)]
    exact sl.own j s' e
theorem Rep.setN {i : Nat} {s : S} {v : V} (r : Rep K mg F Gs Hs H σ ρ) (h : Own K mg Hs H s v []) : Rep K mg F Gs Hs H (σ.set i (some v)) (ρ.set i (some s)) := by
  obtain ⟨fp, sl⟩ := r.sl
  exact ⟨by rw [List.length_set, List.length_set]; exact r.len, r.gr, _, sl.set r.len (fp' := []) h (fun _ h => nomatch h) (fun _ h => nomatch h) List.nodup_nil⟩
end
def sTry (j i : Nat) (f : Env → Out Res) : Env → Out Res := fun ρ => match f ρ with
  | .ok r => .ok r
  | .exc c none => guard' (c ∈ exNames) (.ok (.next (((ρ.set i none).set j (some (.x c none))).set i none)))
  | _ => .stuck
section
variable {X : Cx} {n y : Str} {body : List Stmt} {np pos pos' q1 q2 q3 : Pos} {W : WX} {asg : List Nat} {f : Env → Out Res}
theorem hs_try (j i : Nat) (hs : X.stack = X.env :: X.outer) (hf : X.env.frame = some X.env.locals) (hN : X.N.Nodup) (hi : X.N[i]? = some n) (hln : X.env.kindOf n = some .local) (hj : X.N[j]? = some y) (hlj : Loc X.env.scope y) (hex : X.ex = []) (xf : XF X.K X.mg) (tk : Takes X W)
    (hb : ∀ (W : WX) (pn : List (Addr × Obj)) (xe : Value → Shared → Prop), Takes (X.tr pn xe) W → PassesOwn (model X.prog X.w) X.A X.env xe → HTr (X.tr pn xe) W body asg f)
    (hfj : X.fn y = true ∨ X.env.scope.names.lookup y = some .local := by first | exact .inl rfl | exact .inr rfl) (hg : Gl X "GlyphError" := by rfl)
    (hsw : swapsWith (.Name n q2) (some (.Name y q1)) q3.line X.env = pure false := by rfl) (hnd : (n == ("__debug__" : Str)) = false := by decide) (hncd : (n == ("__classdict__" : Str)) = false := by decide) :
    HS1 X W (.Try body [.ExceptHandler (some (.Name "GlyphError" np)) (some n) [.Assign [.Name y q1] (.Name n q2) q3] pos'] [] [] pos) (i :: j :: asg) (sTry j i f) := by
  obtain ⟨G, hG, hcs⟩ := xf.ge
  have hc : Names X "GlyphError" (.ref G) := ⟨hg, by decide, .inl hG⟩
  have hfx : Fix asg f := (hb (fun _ _ _ _ => False) [] (fun _ _ => False) (fun u s' ⟨_, _, _, _, _, _, _, _, _, _, _, _, _, _, _, _, q⟩ => q.elim) PassesOwn.never).fix
  refine ⟨PS.imp (ps_try_keep (tb := fun W => tTr X.K X.mg W asg f) hs hf hN hi hln hj hlj hfj hc tk hex hsw hnd hncd fun W pn xe t p => (hb W pn xe t p).pss) fun D σ H ⟨F, Gs, Hs, ρ, r, p⟩ => ⟨F, Gs, Hs, ρ, r, ?_⟩, fun ρ ρ' e k hk => ?_⟩
  · unfold sTry at p
    cases q : f ρ with
    | ok r1 =>
      rw [q] at p
      cases r1 with
      | next ρ1 => exact fun σ' Hs' H' r' e' k' => p σ' Hs' H' r' e' fun m hm => k' m fun z => hm (by simp [z])
      | ret s => exact p
    | exc c p' =>
      rw [q] at p
      cases p' with
      | some _ => exact p.elim
      | none =>
        obtain ⟨hm, p⟩ := guard_okS p
        intro cls d Hs' H' r' e' hx
        obtain ⟨C, hC⟩ := hcs c hm
        obtain ⟨C', hC', hcls, hd⟩ := hx
        have hd : d = none := hd
        rw [hC.g] at hC'
        cases hC'
        refine ⟨true, by rw [hcls]; exact hC.m, fun _ a na => ?_, fun z => nomatch z⟩
        have g1 : Grow Hs' H' (upd Hs' a (ExV cls d a)) (upd H' a (ExV cls d a)) := grow_new r'.sh na
        have r2 := ((r'.grow g1).junk (i := i) (u := some (.ref a)))
        have r3 := (r2.setN (i := j) (s := .x c none) (v := .ref a) ⟨rfl, a, cls, d, rfl, upd_same, C, hC.g, hcls, hd⟩).junk (i := i) (u := none)
        refine p _ _ _ r3 (e'.trans g1.s) fun m hm' => ?_
        have h1 : i ≠ m := fun z => hm' (by simp [z])
        have h2 : j ≠ m := fun z => hm' (by simp [z])
        rw [List.getElem?_set_ne h1, List.getElem?_set_ne h2, List.getElem?_set_ne h1]
    | stuck => rw [q] at p; exact p.elim
  · unfold sTry at e
    have h1 : i ≠ k := fun z => hk (by simp [z])
    have h2 : j ≠ k := fun z => hk (by simp [z])
    split at e
    · rename_i r1 q
      cases e
      exact hfx ρ ρ' q k fun z => hk (by simp [z])
    · obtain ⟨_, e⟩ := guard_eq e
      cases e
      rw [List.getElem?_set_ne h1, List.getElem?_set_ne h2, List.getElem?_set_ne h1]
    · cases e
end
/-! ### isinstance of what was caught -/
section
variable {X : Cx} {W : WX} {x : Str} {pos p1 p2 p3 : Pos}
def rIsX (K : PySem.W.Frag) : List V → Hp → VK → Prop := fun xs H Q => ∃ (a D : Addr) (c : V) (cv : Value) (b : Bool), xs = [.ref a, c] ∧ H a = some (ExV (.ref D) none a) ∧ ExcC K D ∧ (∀ u, RelV c u → u = cv) ∧ PySem.W.kitOne K (.ref D) cv = some b ∧ Q (.bl b) H
theorem call_isX : CallR X (.builtin "isinstance") (rIsX X.K) := by
  intro pins s σ H xs us Q I r h
  obtain ⟨a, D, c, cv, b, rfl, hH, C, hcv, e, q⟩ := h
  cases r with
  | cons rx rr =>
    cases rr with
    | cons rt rr =>
      cases rr
      cases rx
      have ec := hcv _ rt
      subst ec
      obtain ⟨⟨oe, vs, hget, hz, hv⟩, _⟩ := I.hok a _ hH
      have J : PySem.W.InstAt s.heap a oe D none := by
        obtain ⟨oc, od, oda, osl⟩ := oe
        obtain ⟨h1, h2⟩ := hz
        dsimp only at h1 h2 hv
        subst h1 h2 hv
        exact ⟨hget, rfl, rfl, trivial⟩
      exact PySem.W.kia_one (PySem.W.handS_kitx_exc C.hg C.hk C.hs C.hd C.ha C.hn C.ht C.hm) I.kIn J e (fun z => nomatch z) fun tk => ⟨.bl b, H, I.kept (t' := tk) fun _ _ z => z, rfl, q⟩
/-- by name -/
def isXb (c c' : Str) : Bool := if c' = "ValueError" then true else decide (c = c')
def dIsX (i : Nat) (c' : Str) : Env → Out D := fun ρ => match ρ[i]? with
  | some (some (.x c none)) => guard' (c ∈ exNames) (.ok (.bl (isXb c c')))
  | _ => .stuck
theorem isX_read {i : Nat} {c' : Str} {cv : V} (xf : XF X.K X.mg) (hk : ∀ c ∈ exNames, ∀ C, X.mg c = some (.ref C) → ∃ u, (∀ w, RelV cv w → w = u) ∧ PySem.W.kitOne X.K (.ref C) u = some (isXb c c')) {σ : St} {H : Hp} {Q : VK} (h : tG (RD X.K) X.K X.mg W (dIsX i c') σ H Q) :
    tVar i σ H fun v H1 => rIsX X.K [v, cv] H1 Q := by
  obtain ⟨F, Gs, Hs, ρ, r, p⟩ := h
  unfold dIsX at p
  split at p
  · rename_i c e
    obtain ⟨hm, p⟩ := guard_ok p
    obtain ⟨fp, sl⟩ := r.sl
    obtain ⟨v, e1, _, a, cls, d, rfl, hHs, C, hC, hcls, hd⟩ := sl.own i _ e
    have hd : d = none := hd
    subst hcls hd
    obtain ⟨G, hG, hcs⟩ := xf.ge
    obtain ⟨C', hC'⟩ := hcs c hm
    rw [hC'.g] at hC
    cases hC
    obtain ⟨u, hu, ku⟩ := hk c hm _ hC'.g
    exact ⟨.ref a, e1, a, _, cv, u, _, rfl, r.sh _ _ hHs, hC'.e, hu, ku, p.now r.sh isB⟩
  · exact p.elim
theorem hd_isX (i : Nat) {c' : Str} (hm : X.mg "isinstance" = none) (xf : XF X.K X.mg) (hc' : c' ∈ exAll) (hgc : Gl X c') (hvc : (c' == ("__debug__" : Str)) = false) (hnv : c' ≠ "ValueError") (hN : X.N[i]? = some x := by rfl) (hv : Vis X.env.scope x := by first | exact Or.inl rfl | exact Or.inr (Or.inl rfl) | exact Or.inr (Or.inr rfl)) (hd : (x == ("__debug__" : Str)) = false := by decide)
    (hcd : (x == ("__classdict__" : Str)) = false := by decide) (hg : Gl X "isinstance" := by rfl)
    (hs : starEach [.Name x p2, .Name c' p3] X.env = (false, eval (.Name x p2) X.env) :: starEach [.Name c' p3] X.env := by rfl) (hs2 : starEach [.Name c' p3] X.env = (false, eval (.Name c' p3) X.env) :: starEach [] X.env := by rfl) (hpl : (backTo pos (starEach [.Name c' p3] X.env)).any (·.1) = false := by rfl) :
    HD X W (.Call (.Name "isinstance" p1) [.Name x p2, .Name c' p3] [] pos) (dIsX i c') := by
  obtain ⟨C', hC'⟩ : ∃ C', X.mg c' = some (.ref C') := by
    obtain ⟨G, hG, hcs⟩ := xf.ge
    obtain ⟨C, hC⟩ := hcs "BadOutline" (by decide)
    obtain ⟨C', h, _⟩ := xf.is "BadOutline" (by decide) c' hc' C hC.g
    exact ⟨C', h⟩
  refine ⟨PE.imp (pe_callB call_isX hg hm (by decide +kernel) (pa_cons (pe_var hN hv hd hcd) (pa_cons (pe_glob (v := .ref C') hgc hC' rfl hvc) pa_nil hs2) hs) (by decide) (by decide) hs hpl) fun σ H Q h => isX_read xf (fun c hc C hC => ?_) h⟩
  obtain ⟨C2, h2, k2⟩ := xf.is c hc c' hc' C hC
  rw [hC'] at h2
  cases h2
  exact ⟨.ref C', fun w r => r, by rw [k2]; unfold isXb; rw [if_neg hnv]⟩
theorem hd_isXV (i : Nat) (hm : X.mg "isinstance" = none) (hmv : X.mg "ValueError" = none) (xf : XF X.K X.mg) (hN : X.N[i]? = some x := by rfl) (hv : Vis X.env.scope x := by first | exact Or.inl rfl | exact Or.inr (Or.inl rfl) | exact Or.inr (Or.inr rfl)) (hd : (x == ("__debug__" : Str)) = false := by decide)
    (hcd : (x == ("__classdict__" : Str)) = false := by decide) (hg : Gl X "isinstance" := by rfl) (hgc : Gl X "ValueError" := by rfl)
    (hs : starEach [.Name x p2, .Name "ValueError" p3] X.env = (false, eval (.Name x p2) X.env) :: starEach [.Name "ValueError" p3] X.env := by rfl) (hs2 : starEach [.Name "ValueError" p3] X.env = (false, eval (.Name "ValueError" p3) X.env) :: starEach [] X.env := by rfl) (hpl : (backTo pos (starEach [.Name "ValueError" p3] X.env)).any (·.1) = false := by rfl) :
    HD X W (.Call (.Name "isinstance" p1) [.Name x p2, .Name "ValueError" p3] [] pos) (dIsX i "ValueError") := by
  refine ⟨PE.imp (pe_callB call_isX hg hm (by decide +kernel) (pa_cons (pe_var hN hv hd hcd) (pa_cons (pe_bltn (v := .ty "ValueError") hgc hmv (by decide +kernel) rfl (by decide) (by decide)) pa_nil hs2) hs) (by decide) (by decide) hs hpl) fun σ H Q h => isX_read xf (fun c hc C hC => ⟨.type "ValueError", fun w (r : RelV (.ty "ValueError") w) => r, ?_⟩) h⟩
  rw [xf.iv c hc C hC]; rfl
end
end G

set_option Elab.async false
set_option linter.all false
set_option maxRecDepth 100000
set_option maxHeartbeats 4000000
namespace G
open PySem PySem.Spec L2
open Evl (Ex ex_l ex_t ex_rd)

/-! ### a tuple of strings of the module -/
structure GT (K : PySem.W.Frag) (mg : Str → Option Value) (x : Str) (ss : List Str) : Prop where
  h : ∃ a o its n, mg x = some (.ref a) ∧ K.lookup a = some o ∧ o.cls = .type "tuple" ∧ o.data = .seq its n ∧ its.size ≤ sizeLine ∧ Vals (ss.map V.str) its.toList
section
variable {X : Cx} {W : WX} {e a b c : Expr} {es : List Expr} {pos p1 p2 p3 p4 : Pos} {x : Str}
theorem isAll_strs {K : PySem.W.Frag} {H : Hp} : ∀ ss : List Str, IsAll K H (ss.map D.str) (ss.map V.str)
  | [] => isAll_nil
  | s :: ss => isAll_cons (by simp only [Is]) (isAll_strs ss)
theorem hd_gtup {ss : List Str} (g : GT X.K X.mg x ss) (hg : Gl X x := by rfl) (hd : (x == ("__debug__" : Str)) = false := by decide) : HD X W (.Name x pos) (dC (.tup (ss.map .str))) := by
  obtain ⟨a, o, its, n, hm, hk, hc, hdd, hz, hv⟩ := g.h
  exact hd_c (pe_glob hg hm (v := .ref a) rfl hd) fun Hs => by
    simp only [Is]
    exact ⟨a, _, rfl, .inr ⟨o, its, n, hk, hc, hdd, hz, hv⟩, isAll_strs ss⟩
/-! ### list.count, list.index of True among bools -/
theorem count_eqU {x : V} : ∀ {xs : List V} {us : List Value}, Vals xs us → xs.all flatV = true → us.countP (eqU x) = xs.countP fun y => eqV y x
  | _, _, .nil, _ => rfl
  | _, _, .cons r t, f => by
    rw [List.all_cons, Bool.and_eq_true] at f
    rw [List.countP_cons, List.countP_cons, eqU_of r f.1, count_eqU t f.2]
def rCntF (K : PySem.W.Frag) : V → List V → Hp → VK → Prop := fun x xs H Q => ∃ (p : Addr) (ys : List V) (y : V), x = .ref p ∧ xs = [y] ∧ SqL K H p ys ∧ flatV y = true ∧ ys.all flatV = true ∧ Q (.int (ys.countP (fun z => eqV z y) : Nat)) H
theorem mt_cntF : MtR X "list.count" (rCntF X.K) := by
  intro pins s σ H x xs v us Q I rx rxs h
  obtain ⟨p, ys, y, rfl, rfl, hs, fy, fys, q⟩ := h
  cases rx
  obtain ⟨u, rfl, ru⟩ := rxs.one
  obtain ⟨its, rv, ⟨⟨cls, dd, data, sl⟩, n, ho, hc, hdn, hd⟩, hlen⟩ := I.list hs
  simp only at hc hd
  subst hc hd
  refine call_meets PySem.F.slot_list_count ⟨_, ho, rfl⟩ PySem.F.entry_list_count (PySem.F.args_list_count_2 _ _)
    (SeqAt.list_countAt p its.toArray n dd sl u (eqU y)) ⟨ho, fun u' hu' => mem_eqAt ru fy rv fys u' (by simpa using hu'), ?_⟩
  refine ⟨.int (ys.countP (fun z => eqV z y) : Nat), H, I.tok _, ⟨s.toks, ?_⟩, q⟩
  show Value.int ((its.toArray.toList.countP (eqU y) : Nat) : Int) s.toks = _
  rw [show its.toArray.toList = its from rfl, count_eqU rv fys]
def countT (d : D) : Out D := match d with
  | .lst ds => match blsOf ds with
    | some bs => .ok (.int (bs.countP id : Nat))
    | none => .stuck
  | _ => .stuck
def indexT (d : D) : Out D := match d with
  | .lst ds => match blsOf ds with
    | some bs => match bs.findIdx? id with
      | some j => .ok (.int (j : Nat))
      | none => .stuck
    | none => .stuck
  | _ => .stuck
theorem flat_bls (bs : List Bool) : (bs.map V.bl).all flatV = true := by
  induction bs with
  | nil => rfl
  | cons b r ih => rw [List.map_cons, List.all_cons, ih]; rfl
theorem count_bls (bs : List Bool) : (bs.map V.bl).countP (fun z => eqV z (.bl true)) = bs.countP id := by
  rw [List.countP_map]
  congr 1
  funext b
  cases b <;> rfl
theorem hd_countT {f : Env → Out D} {j : Nat} {apos : Pos}  (hpe : PE X (.Call (.Attribute e "count" apos) [.Constant (.bool true) j p1] [] pos) (tBM X.K "list" (rCntF X.K) (tG (RD X.K) X.K X.mg W f) (tCons (tC (.bl true)) tNil))) : HD X W (.Call (.Attribute e "count" apos) [.Constant (.bool true) j p1] [] pos) (d1 countT f) :=
  ⟨PE.imp hpe fun σ H Q ⟨F, Gs, Hs, ρ, r, p⟩ => ⟨F, Gs, Hs, ρ, r, (Post.seq anti_D p).imp fun v H1 ⟨Hs1, d, g1, h1, p1⟩ => by
    have h1 : Is _ _ _ _ := h1
    unfold countT at p1
    cases d with
    | lst ds =>
      dsimp only at p1
      cases q : blsOf ds with
      | none => rw [q] at p1; exact p1.elim
      | some bs =>
        rw [q] at p1
        simp only [Is] at h1
        obtain ⟨t, us, rfl, ht, hu⟩ := h1
        rw [bls_is hu q] at ht
        have hs := SqL.of (K := X.K) (g1.sh _ _ ht)
        exact ⟨.inl ⟨rfl, _, hs⟩, t, _, _, rfl, rfl, hs, rfl, flat_bls bs, by rw [count_bls]; exact p1.now g1.sh isI⟩
    | _ => exact p1.elim⟩⟩
theorem first_bls : ∀ {bs : List Bool} {j : Nat}, bs.findIdx? id = some j → ∃ (h : j < bs.length), bs[j] = true ∧ ∀ m, (hm : m < j) → bs[m]'(by omega) = false := by
  intro bs j h
  rw [List.findIdx?_eq_some_iff_getElem] at h
  obtain ⟨h1, h2, h3⟩ := h
  exact ⟨h1, h2, fun m hm => by have := h3 m hm; simpa using this⟩
theorem hd_indexT {f : Env → Out D} {j : Nat} {apos : Pos} (hpe : PE X (.Call (.Attribute e "index" apos) [.Constant (.bool true) j p1] [] pos) (tBM X.K "list" (rIndex X.K) (tG (RD X.K) X.K X.mg W f) (tCons (tC (.bl true)) tNil))) : HD X W (.Call (.Attribute e "index" apos) [.Constant (.bool true) j p1] [] pos) (d1 indexT f) :=
  ⟨PE.imp hpe fun σ H Q ⟨F, Gs, Hs, ρ, r, p⟩ => ⟨F, Gs, Hs, ρ, r, (Post.seq anti_D p).imp fun v H1 ⟨Hs1, d, g1, h1, p1⟩ => by
    have h1 : Is _ _ _ _ := h1
    unfold indexT at p1
    cases d with
    | lst ds =>
      dsimp only at p1
      cases q : blsOf ds with
      | none => rw [q] at p1; exact p1.elim
      | some bs =>
        rw [q] at p1
        dsimp only at p1
        cases q2 : bs.findIdx? id with
        | none => rw [q2] at p1; exact p1.elim
        | some jj =>
          rw [q2] at p1
          simp only [Is] at h1
          obtain ⟨t, us, rfl, ht, hu⟩ := h1
          rw [bls_is hu q] at ht
          have hs := SqL.of (K := X.K) (g1.sh _ _ ht)
          obtain ⟨hj, hj1, hj2⟩ := first_bls q2
          refine ⟨.inl ⟨rfl, _, hs⟩, t, _, .bl true, jj, .bl true, rfl, rfl, hs, rfl, flat_bls bs, by rw [List.getElem?_map, List.getElem?_eq_getElem hj, hj1]; rfl, rfl, fun m z hm hz => ?_, p1.now g1.sh isI⟩
          rw [List.getElem?_map, List.getElem?_eq_getElem (show m < bs.length by omega), hj2 m hm] at hz
          have hz : V.bl false = z := by simpa using hz
          rw [← hz]; rfl
    | _ => exact p1.elim⟩⟩
theorem hs_pass : HS1 X W (.Pass pos) [] sNext := ⟨PS.imp ps_pass fun D σ H ⟨F, Gs, Hs, ρ, r, p⟩ => p σ Hs H r (Ex.refl _) fun _ _ => rfl, fun ρ ρ' e i _ => by cases e; rfl⟩
end
/-! ### the law at the end -/
def spLaw (K : PySem.W.Frag) : Sp := fun vs H Q _ => ∃ (a : Addr) (ns : List Int), vs = [.ref a] ∧ SqL K H a (ns.map V.int) ∧ ns.length ≤ 63 ∧ ∀ H', Q (.bl true) H'
theorem fnok_law {P : Program} {w : World} {K : PySem.W.Frag} {mg : Str → Option Value} {base : Heap} {k : Nat} {f : Addr} {fd : FuncData} {ps : List Str} {m : List S → Out S} (F : FnOk P w K mg base (L2.CX P w) k f fd ps (spD K mg 1 m))
    (h : ∀ ns : List Int, ns.length ≤ 63 → m [.d (.scr ns)] = .ok (.d (.bl true))) : FnOk P w K mg base (L2.CX P w) k f fd ps (spLaw K) :=
  F.imp fun vs H Q E ⟨a, ns, e, hS, hl, q⟩ => ⟨H, [.d (.scr ns)], Ex.refl _, ⟨.ref a, [], e, ⟨rfl, by simp only [Is]; exact ⟨a, rfl, hS⟩⟩, rfl⟩, rfl, by
    rw [h ns hl]
    intro v Hs' H' g hr
    have : Is _ _ _ _ := hr.is
    simp only [Is] at this
    rw [this]; exact q H'⟩
theorem cx_no {P : Program} {w : World} {H : Hp} {s : Shared} {e : Value} {s' : Shared} (h : L2.CX P w [] H s (fun _ _ _ => False) e s') : False := by
  obtain ⟨_, _, _, _, _, _, _, _, _, _, _, _, h⟩ := h
  exact h
/-- ExcC, to be looked up at once -/
def excB (K : PySem.W.Frag) (D : Addr) : Bool :=
  (PySem.W.findIn K (.ref D) "__getattribute__" == some (some (.builtin "BaseException.__getattribute__"))) && (PySem.W.findIn K (.ref D) "__getattr__" == some none) && (PySem.W.subIn K (.ref D) (.type "BaseException") == some true) && PySem.W.hasDictIn K D &&
  (PySem.W.findIn K (.ref D) "__class__" == some (some (.builtin "object.__class__"))) && (PySem.W.specialIn K (.builtin "object.__class__") "__get__" == some (some (.builtin "getset_descriptor.__get__"))) && (PySem.W.takesIn K (.builtin "object.__class__") == some true) && (PySem.W.mroIn K D (.type "object") == some true)
theorem excB_ok {K : PySem.W.Frag} {D : Addr} (h : excB K D = true) : ExcC K D := by
  unfold excB at h
  simp only [Bool.and_eq_true, beq_iff_eq] at h
  obtain ⟨⟨⟨⟨⟨⟨⟨h1, h2⟩, h3⟩, h4⟩, h5⟩, h6⟩, h7⟩, h8⟩ := h
  exact ⟨h1, h2, h3, h4, h5, h6, h7, h8⟩
end G

set_option Elab.async false
set_option linter.all false
set_option maxRecDepth 100000
set_option maxHeartbeats 4000000
namespace G
open PySem PySem.Spec PyProof.Rows L2
/-! ### set(l), l a list of ints: what HandS.SetFor does for a tuple, in two steps of my own -/
abbrev set0 (w : World) : Obj := { cls := .type "set", dict := none, data := .set #[] 0 (.fresh 0 0 (!w.params.followText "set-order")) }
section
variable {P : Program} {w : World} {A : Around} {E : Value → Shared → Prop} {s : Shared}
/-- what the new set is, at S: it holds just ns -/
def Holds1 (w : World) (ns : List Int) (h : Heap) (S : Addr) (h' : Heap) (c : Nat) : Prop := SetR w h' S (fun j => decide (j ∈ ns)) c ∧ c ≤ ns.length ∧ ∀ b o, h.get? b = some o → h'.get? b = some o
set_option maxHeartbeats 3200000 in
theorem set_init_list {l : Addr} {xs : Array Value} {n : Nat} {dd : Option Addr} {sl : Array (Option Value)} (ns : List Int) {R : PySem.Fin → Shared → Prop} (hh : A.handled = none) (hl : s.heap.get? l = some { cls := .type "list", dict := dd, data := .seq xs n, slots := sl }) (hi : IntsAre xs.toList ns) (hb : ns.length + 1 < scanBound)
    (hr : ∀ h' tk c, Holds1 w ns s.heap s.heap.objs.size h' c → R (.done (.ret .none)) { s with heap := h', toks := tk }) :
    wpAny (model P w) A.in1.in1 (Builtin.«set.__init__» ⟨[.ref s.heap.objs.size, .ref l], []⟩) R E { s with heap := s.heap.push (set0 w) } := by
  have zl : xs.size = ns.length := by have q := IntsAre.length hi; rwa [Array.length_toList] at q
  have old : ∀ b o, s.heap.get? b = some o → (s.heap.push (set0 w)).get? b = some o := fun b o e => Heap.get?_push_of_some _ e
  have hS : (s.heap.push (set0 w)).get? s.heap.objs.size = some (set0 w) := Heap.get?_push_size _ rfl
  have hl1 := old l _ hl
  have il : (s.heap.push (set0 w)).IsList l xs := ⟨_, hl1, rfl, n, rfl⟩
  have s1 := F.sub_list_set
  have s2 := F.sub_list_frozenset
  have ne : (Value.type "list" == Value.type "dict") = false := by decide
  have lt : l < s.heap.objs.size := Heap.lt_size hl
  have sz : (s.heap.push (set0 w)).objs.size = s.heap.objs.size + 1 := Heap.size_push ..
  have n0 : l ≠ (s.heap.push (set0 w)).objs.size := by rw [sz]; exact Nat.ne_of_lt (Nat.lt_succ_of_lt lt)
  have n1 : s.heap.objs.size ≠ (s.heap.push (set0 w)).objs.size := by rw [sz]; exact Nat.ne_of_lt (Nat.lt_succ_self _)
  have n2 : s.heap.objs.size ≠ l := (Nat.ne_of_lt lt).symm
  unfold Builtin.«set.__init__» noKeywords Builtin.Frozenset.updateFrom
  generalize hI : pyIter = I
  wp_walk
  subst hI
  refine wpAny_pyIter_list il (wpAny_bind (wpAny_runValue ?_))
  have at_i : ∀ (i : Nat) (v : Value), xs[i]? = some v → ∃ k t, ns[i]? = some k ∧ v = .int k t := fun i v hv => by
    have li : i < ns.length := zl ▸ (Array.getElem?_eq_some_iff.mp hv).1
    obtain ⟨t, e⟩ := PyProof.Rows.IntsAre.int_at hi i v (by rw [Array.getElem?_toList, hv])
    exact ⟨ns[i], t, List.getElem?_eq_getElem li, by rw [e, List.getD_eq_getElem?_getD, List.getElem?_eq_getElem li]; rfl⟩
  refine set_update_ints ((Walks.list (show A.in1.in1.in1.handled = none by simp [hh]) _ l n0 xs).toS) s.heap.objs.size (fun hm => by
      rcases List.mem_cons.mp hm with e | e
      · exact n1 e
      · exact n2 (List.mem_singleton.mp e)) ns zl hb at_i xs.size 0 _ rfl (Nat.zero_le _)
    ⟨⟨_, Heap.get?_push_size _ rfl, rfl, rfl⟩, il.push _⟩ ⟨0, Nat.le_refl 0, setR_new_at (Heap.get?_push_of_some _ hS)⟩ fun s' c mv lc RS => ?_
  obtain ⟨h', g', d', tk', os'⟩ := s'
  cases (show g' = s.gens from mv.gens)
  cases (show d' = s.drawn from mv.drawn)
  cases (show os' = s.os from mv.os)
  refine wpAny_pure (wpAny_pure (hr h' tk' c ⟨RS, zl ▸ lc, fun b o e => mv.heap b o ?_ (Heap.get?_push_of_some _ (old b o e))⟩))
  have lb : b < s.heap.objs.size := Heap.lt_size e
  intro hm
  rcases List.mem_cons.mp hm with q | q
  · exact Nat.ne_of_lt lb q
  · have q := List.mem_singleton.mp q
    rw [sz] at q; exact Nat.ne_of_lt (Nat.lt_succ_of_lt lb) q
set_option maxHeartbeats 3200000 in
theorem call_set_listI {l : Addr} {xs : Array Value} (ns : List Int) {Q : Value → Shared → Prop} (hh : A.handled = none) (hl : s.heap.IsList l xs) (hi : IntsAre xs.toList ns) (hb : ns.length + 1 < scanBound)
    (hq : ∀ h' tk c, Holds1 w ns s.heap s.heap.objs.size h' c → Q (.ref s.heap.objs.size) { s with heap := h', toks := tk }) : wpAny (model P w) A (call (.type "set") [.ref l]) Q E s := by
  obtain ⟨⟨_, dd, _, sl⟩, ho, rfl, n, rfl⟩ := hl
  obtain ⟨_, _, mro⟩ := F.called_set.mro
  have f1 := F.called_set.made
  have f2 := F.called_set.sub
  have f3 := F.called_set.notType
  have f4 := F.called_set.canCreate
  have f5 := F.typeCall_set_1 (.ref l)
  refine wpAny_call (codeAny_of_tree (show wpAny _ _ (callAny (.type "set") _) _ _ _ from wpAny_pure ⟨Code.quiet_builtin _ (by decide +kernel), codeAny_builtin F.entry_type_call ?_⟩))
  rw [Around.under_plain (weight_type_call_type "set" [.ref l] []) rfl]
  repeat (any_goals (first | assumption | wp_step))
  refine codeAny_mono (code_set_led1 (.ref l) (E := E) (Q₁ := fun v t => v = .ref s.heap.objs.size ∧ t = { s with heap := s.heap.push (set0 w) }) ⟨rfl, rfl⟩) ?_
  rintro (e | (_ | _ | _ | v)) t hr
  · exact hr
  · exact hr.elim
  · exact hr.elim
  · exact hr.elim
  obtain ⟨rfl, rfl⟩ := hr
  have hT : Shared.TypeIs { s with heap := s.heap.push (set0 w) } (.ref s.heap.objs.size) "set" := ⟨_, Heap.get?_push_size _ rfl, rfl⟩
  have i1 := F.called_set.init.lookup
  have i2 := F.called_set.init.bind (.ref s.heap.objs.size)
  repeat (any_goals (first | assumption | wp_step))
  refine codeAny_mono (codeAny_call_builtin (R := wants (fun r t => r = .none ∧ ∃ h' tk c, t = { s with heap := h', toks := tk } ∧ Holds1 w ns s.heap s.heap.objs.size h' c) E) F.called_set.init.plain F.entry_set_init (check_set_init_1 hT ?_)) ?_
  · exact set_init_list ns hh ho hi hb fun h' tk c q => ⟨rfl, h', tk, c, rfl, q⟩
  · rintro (e | (_ | _ | _ | v)) t hr
    · exact hr
    · exact hr.elim
    · exact hr.elim
    · exact hr.elim
    obtain ⟨rfl, h', tk, c, rfl, q⟩ := hr
    repeat (any_goals (first | assumption | wp_step))
    exact hq h' tk c q
end
def rSetL (K : PySem.W.Frag) (w : World) : List V → Hp → VK → Prop := fun vs H Q => ∃ (a : Addr) (ns : List Int), vs = [V.ref a] ∧ SqL K H a (ns.map V.int) ∧ ns.length + 1 < scanBound ∧ ∀ (p : Addr) (c : Nat), c ≤ ns.length → H p = none → Q (.ref p) (upd H p (SetO w p (fun j => decide (j ∈ ns)) c))
theorem cr_setL {X : Cx} (hc : X.calm = true) : CallR X (.type "set") (rSetL X.K X.w) := by
  intro pins s σ H vs us Q I r h
  obtain ⟨a, ns, rfl, hs, hb, q⟩ := h
  obtain ⟨its, rv, hl, hz⟩ := I.list hs
  rw [Vals.ref1 r]
  refine call_set_listI ns (I.ok.hd hc) hl.isList rv.ints hb fun h' tk c ⟨R, hcn, k⟩ => ?_
  exact ⟨.ref _, _, I.laid (t' := tk) k (Nat.le_refl _) (setO_new R), rfl, q _ c hcn (I.hok.fresh (Nat.le_refl _))⟩
end G

set_option Elab.async false
set_option linter.all false
set_option maxRecDepth 100000
set_option maxHeartbeats 4000000
namespace G
open PySem PySem.Spec L2
open Evl (Ex ex_l ex_t ex_rd)
/-! ### sorted(..), sorted(set(..)) of ints -/
def srtI (ns : List Int) : List Int := ns.mergeSort (fun x y => decide (x ≤ y))
def insI (x : Int) : List Int → List Int
  | [] => [x]
  | y :: r => if x < y then x :: y :: r else if x = y then y :: r else y :: insI x r
def ssI : List Int → List Int
  | [] => []
  | x :: r => insI x (ssI r)
theorem mem_insI {x z : Int} : ∀ {l : List Int}, z ∈ insI x l ↔ z = x ∨ z ∈ l
  | [] => by simp [insI]
  | y :: r => by
    unfold insI
    split
    · simp
    · split
      · rename_i h; subst h; simp
      · simp only [List.mem_cons, mem_insI (l := r)]
        constructor
        · rintro (h | h | h) <;> simp [h]
        · rintro (h | h | h) <;> simp [h]
theorem mem_ssI {z : Int} : ∀ {l : List Int}, z ∈ ssI l ↔ z ∈ l
  | [] => by simp [ssI]
  | y :: r => by simp only [ssI, mem_insI, mem_ssI (l := r), List.mem_cons]
theorem pw_insI {x : Int} : ∀ {l : List Int}, l.Pairwise (· < ·) → (insI x l).Pairwise (· < ·)
  | [], _ => by simp [insI]
  | y :: r, h => by
    have h1 := List.pairwise_cons.mp h
    unfold insI
    split
    · rename_i q
      refine List.pairwise_cons.mpr ⟨fun z hz => ?_, h⟩
      rcases List.mem_cons.mp hz with e | e
      · rw [e]; exact q
      · have := h1.1 z e; omega
    · split
      · exact h
      · refine List.pairwise_cons.mpr ⟨fun z hz => ?_, pw_insI h1.2⟩
        rcases mem_insI.mp hz with e | e
        · omega
        · exact h1.1 z e
theorem pw_ssI : ∀ {l : List Int}, (ssI l).Pairwise (· < ·)
  | [] => List.Pairwise.nil
  | _ :: _ => pw_insI pw_ssI
theorem pw_unique : ∀ {a b : List Int}, a.Pairwise (· < ·) → b.Pairwise (· < ·) → (∀ z, z ∈ a ↔ z ∈ b) → a = b
  | [], [], _, _, _ => rfl
  | [], y :: b, _, _, h => by simpa using (h y).mpr List.mem_cons_self
  | x :: a, [], _, _, h => by simpa using (h x).mp List.mem_cons_self
  | x :: a, y :: b, ha, hb, h => by
    have ha1 := List.pairwise_cons.mp ha
    have hb1 := List.pairwise_cons.mp hb
    have e : x = y := by
      rcases List.mem_cons.mp ((h x).mp List.mem_cons_self) with e | e
      · exact e
      · rcases List.mem_cons.mp ((h y).mpr List.mem_cons_self) with e2 | e2
        · exact e2.symm
        · have := hb1.1 x e; have := ha1.1 y e2; omega
    subst e
    rw [pw_unique ha1.2 hb1.2 fun z => ?_]
    constructor
    · intro hz
      rcases List.mem_cons.mp ((h z).mp (List.mem_cons_of_mem _ hz)) with e | e
      · have := ha1.1 z hz; omega
      · exact e
    · intro hz
      rcases List.mem_cons.mp ((h z).mpr (List.mem_cons_of_mem _ hz)) with e | e
      · have := hb1.1 z hz; omega
      · exact e
theorem ssI_self {l : List Int} : ssI l = l ↔ l.Pairwise (· < ·) := ⟨fun h => h ▸ pw_ssI, fun h => pw_unique pw_ssI h fun _ => mem_ssI⟩
theorem isAll_ints {K : PySem.W.Frag} {H : Hp} : ∀ ss : List Int, IsAll K H (ss.map D.int) (ss.map V.int)
  | [] => isAll_nil
  | s :: ss => isAll_cons (by simp only [Is]) (isAll_ints ss)
section
variable {X : Cx} {W : WX} {e a b c : Expr} {es : List Expr} {pos p1 p2 p3 p4 : Pos} {x : Str}
def sortedS : List D → Out S
  | [.lst xs] => match intsOf xs with
    | some ns => .ok (.l ((srtI ns).map .int))
    | none => .stuck
  | _ => .stuck
def sortedsetS : List D → Out S
  | [.lst xs] => match intsOf xs with
    | some ns => guard' (ns.length < 64) (.ok (.l ((ssI ns).map .int)))
    | none => .stuck
  | _ => .stuck
theorem he_sorted {f : Env → Out (List D)} (hm : X.mg "sorted" = none) (ha : HA X W (e :: es) f) (hg : Gl X "sorted" := by rfl)
    (hs : starEach (e :: es) X.env = (false, eval e X.env) :: starEach es X.env := by rfl) (hpl : (backTo pos (starEach es X.env)).any (·.1) = false := by rfl) : HE X W (.Call (.Name "sorted" p1) (e :: es) [] pos) (dA sortedS f) :=
  ⟨PE.imp (pe_callB cr_sortedI hg hm (by decide +kernel) ha.pa (by decide) (by decide) hs hpl) fun σ H Q ⟨F, Gs, Hs, ρ, r, p⟩ => ⟨F, Gs, Hs, ρ, r, (Post.seq anti_E p).imp fun vs H1 ⟨Hs1, ds, g1, h1, p1⟩ => by
    have h1 : IsAll _ _ _ _ := h1
    unfold sortedS at p1
    split at p1
    · obtain ⟨v, rfl, h⟩ := isAll1 h1
      split at p1
      · rename_i ns q
        simp only [Is] at h
        obtain ⟨t, us, rfl, ht, hu⟩ := h
        rw [ints_is hu q] at ht
        refine ⟨t, ns, rfl, SqL.of (g1.sh _ _ ht), fun ns' pp hp hw hn => ?_⟩
        have e : ns' = srtI ns := PySem.W.os_sorted_mergeSort hp hw
        subst e
        exact p1.later (grow_own g1.sh hn) (rs_new g1.sh hn (isAll_ints _))
      · exact p1.elim
    · exact p1.elim⟩⟩
theorem he_sortedset {f : Env → Out (List D)} (hc : X.calm = true) (hm : X.mg "sorted" = none) (hm2 : X.mg "set" = none) (ha : HA X W (e :: es) f) (hg : Gl X "sorted" := by rfl) (hg2 : Gl X "set" := by rfl)
    (hs : starEach (e :: es) X.env = (false, eval e X.env) :: starEach es X.env := by rfl) (hpl : (backTo p3 (starEach es X.env)).any (·.1) = false := by rfl)
    (hs2 : starEach [.Call (.Name "set" p2) (e :: es) [] p3] X.env = (false, eval (.Call (.Name "set" p2) (e :: es) [] p3) X.env) :: starEach [] X.env := by rfl) (hpl2 : (backTo pos (starEach [] X.env)).any (·.1) = false := by rfl) :
    HE X W (.Call (.Name "sorted" p1) [.Call (.Name "set" p2) (e :: es) [] p3] [] pos) (dA sortedsetS f) :=
  ⟨PE.imp (pe_callB (cr_sortedSet hc) hg hm (by decide +kernel) (pa_cons (pe_callTy (cr_setL hc) hg2 hm2 (by decide +kernel) ha.pa (by decide) (by decide) hs hpl) pa_nil hs2) (by decide) (by decide) hs2 hpl2) fun σ H Q ⟨F, Gs, Hs, ρ, r, p⟩ => ⟨F, Gs, Hs, ρ, r, (Post.seq anti_E p).imp fun vs H1 ⟨Hs1, ds, g1, h1, p1⟩ => by
    have h1 : IsAll _ _ _ _ := h1
    unfold sortedsetS at p1
    split at p1
    · obtain ⟨v, rfl, h⟩ := isAll1 h1
      split at p1
      · rename_i ns q
        obtain ⟨hlen, p1⟩ := guard_ok p1
        simp only [Is] at h
        obtain ⟨t, us, rfl, ht, hu⟩ := h
        rw [ints_is hu q] at ht
        refine ⟨t, ns, rfl, SqL.of (g1.sh _ _ ht), by unfold scanBound; omega, fun pp c hcn hn => ?_⟩
        refine ⟨pp, _, c, rfl, upd_same, by omega, fun ns' p' hw hm hl hn' => ?_⟩
        have e : ns' = ssI ns := pw_unique hw pw_ssI fun z => by rw [hm, mem_ssI]; simp
        subst e
        have g2 : Grow Hs1 H1 Hs1 (upd H1 pp (SetO X.w pp (fun j => decide (j ∈ ns)) c)) := grow_own g1.sh hn
        have g3 := g2.trans (grow_own (o := .lst ((ssI ns).map V.int)) g2.sh hn')
        exact p1.later g3 (anti_E _ _ _ _ _ _ g2.h (rs_new g2.sh hn' (isAll_ints _)))
      · exact p1.elim
    · exact p1.elim⟩⟩
end
end G

set_option Elab.async false
set_option linter.all false
set_option maxRecDepth 100000
set_option maxHeartbeats 4000000
namespace G
open PySem PySem.Spec L2
open Evl (Ex ex_l ex_t ex_rd)
/-! ### a dict of the module: texts to ints -/
structure GD (K : PySem.W.Frag) (w : World) (mg : Str → Option Value) (x : Str) (tab : List (Str × Int)) : Prop where
  h : ∃ d es n, mg x = some (.ref d) ∧ K.lookup d = some ⟨.type "dict", none, .dict es n, #[]⟩ ∧ PySem.W.KeysLit w.params es.toList ∧ (d == sysModules) = false ∧
    Paired (fun (e : DictEntry) (p : Str × Int) => (∃ t, e.key = .str p.1 t) ∧ ∃ t, e.val = .int p.2 t) es.toList tab
def tabV (tab : List (Str × Int)) (z : Str) : Option Int := (tab.find? fun p => p.1 == z).map (·.2)
theorem tab_find : ∀ {l : List DictEntry} {tab : List (Str × Int)} (z : Str), Paired (fun (e : DictEntry) (p : Str × Int) => (∃ t, e.key = .str p.1 t) ∧ ∃ t, e.val = .int p.2 t) l tab →
    (∃ i t, tabV tab z = some i ∧ (l.find? fun e => Value.isStrOf z e.key).map (·.val) = some (.int i t)) ∨ (tabV tab z = none ∧ (l.find? fun e => Value.isStrOf z e.key).map (·.val) = none)
  | _, _, _, .nil => .inr ⟨rfl, rfl⟩
  | e :: l, p :: tab, z, .cons ⟨⟨t, hk⟩, ⟨t', hv⟩⟩ r => by
    have e1 : Value.isStrOf z e.key = (p.1 == z) := by rw [hk]; rfl
    unfold tabV
    rw [List.find?_cons, List.find?_cons, e1]
    cases q : (p.1 == z) with
    | true => exact .inl ⟨p.2, t', rfl, by rw [← hv]; rfl⟩
    | false => exact tab_find z r
def ggetD (tab : List (Str × Int)) : D → Out D
  | .str z => .ok (match tabV tab z with | some i => .int i | none => .non)
  | _ => .stuck
def gidxD (tab : List (Str × Int)) : D → Out D
  | .str z => oOf ((tabV tab z).map .int)
  | _ => .stuck
def ginD (tab : List (Str × Int)) : D → Out D
  | .str z => .ok (.bl (tabV tab z).isSome)
  | _ => .stuck
def gnotinD (tab : List (Str × Int)) : D → Out D
  | .str z => .ok (.bl (!(tabV tab z).isSome))
  | _ => .stuck
section
variable {X : Cx} {W : WX} {e a b c : Expr} {es : List Expr} {pos p1 p2 p3 apos : Pos} {x : Str} {tab : List (Str × Int)}
theorem hd_gget {f : Env → Out D} (g : GD X.K X.w X.mg x tab) (he : HD X W e f) (hg : Gl X x := by rfl) (hdb : (x == ("__debug__" : Str)) = false := by decide) (m : M1 X (.Name x p1) "get" apos e pos := by exact ⟨rfl, rfl, rfl, rfl⟩) :
    HD X W (.Call (.Attribute (.Name x p1) "get" apos) [e] [] pos) (d1 (ggetD tab) f) := by
  obtain ⟨d, ents, n, hm, hl, hk, low, hp⟩ := g.h
  refine ⟨⟨fun pins s σ H Q I h => ?_⟩⟩
  have mo := PySem.W.mapOf_K (prog := X.prog) (w := X.w) I.kIn hl hk
  refine wpAny_Call_method m.base m.few m.line PySem.F.plainAttrs_dict PySem.F.slot_dict_get PySem.F.type_dict_get (thn ((pe_glob (v := .ref d) hg hm rfl hdb).run pins s σ H (fun v H1 => v = .ref d ∧ tG (RD X.K) X.K X.mg W f σ H1 (fun y H2 => ∃ z, y = .str z ∧ Q (match tabV tab z with | some i => .int i | none => .non) H2)) I ⟨rfl, ?_⟩) fun u s1 ⟨v, H1, I1, rx, ev, q1⟩ => ?_)
  · obtain ⟨F, Gs, Hs, ρ, r, p⟩ := h
    refine ⟨F, Gs, Hs, ρ, r, (Post.seq anti_D p).imp fun v H1 ⟨Hs1, dd, g1, h1, p1⟩ => ?_⟩
    have h1 : Is _ _ _ _ := h1
    cases dd with
    | str z =>
      simp only [Is] at h1
      refine ⟨z, h1, Post.now (R := RD X.K) p1 g1.sh ?_⟩
      show Is _ _ _ _
      cases tabV tab z with
      | none => exact isN
      | some i => exact isI
    | _ => exact p1.elim
  · subst ev
    obtain rfl : u = Value.ref d := rx
    have mo1 := PySem.W.mapOf_K (prog := X.prog) (w := X.w) I1.kIn hl hk
    refine ⟨mo1.typeIs, fun b q => ?_, ?_⟩
    · cases q
      exact ⟨_, I1.kIn _ _ hl, rfl⟩
    · rw [m.trees]
      refine Calls.callWith_builtin rfl (Calls.evalArgs_plain (Calls.spliced_cons (thn (he.pe.run pins s1 σ H1 _ I1 q1) fun iv s2 ⟨y, H2, I2, ry, z, ez, q2⟩ => Calls.spliced_nil ?_)))
      subst ez
      obtain ⟨t, rfl⟩ := ry
      have mo2 := PySem.W.mapOf_K (prog := X.prog) (w := X.w) I2.kIn hl hk
      refine call_meetsIn PySem.F.slot_dict_get mo2.typeIs PySem.F.entry_dict_get (PySem.F.args_dict_get_2 _ _) (meets_dict_get (strKind X.prog X.w) d (strKind_is X.prog X.w z t) low) ⟨_, mo2, ⟨_, H2, I2.tok _, ?_, q2⟩⟩
      have hf := tab_find z hp
      have e0 : findBy Value.isStrOf ents z = (ents.toList.find? fun e => Value.isStrOf z e.key).map (·.val) := by
        obtain ⟨l⟩ := ents
        unfold findBy; rw [List.find?_toArray]
      show RelV _ ((findBy Value.isStrOf ents z).getD .none)
      rw [e0]
      rcases hf with ⟨i, t', h1, h2⟩ | ⟨h1, h2⟩
      · rw [h1, h2]; exact ⟨t', rfl⟩
      · rw [h1, h2]; rfl
/-! ### range(i, j, 2) -/
def rng3L (lo : Int) (n : Nat) : List D := (List.range n).map fun i => D.int (lo + (i : Nat) * 2)
theorem rng3L_get {lo : Int} {n i : Nat} {d : D} (h : (rng3L lo n)[i]? = some d) : i < n ∧ d = .int (lo + (i : Nat) * 2) := by
  unfold rng3L at h
  rw [List.getElem?_map] at h
  by_cases hi : i < n
  · rw [List.getElem?_range hi] at h; cases h; exact ⟨hi, rfl⟩
  · rw [List.getElem?_eq_none (by rw [List.length_range]; omega)] at h; cases h
theorem itd_rng3 {K : PySem.W.Frag} {Hb Hs : Hp} {lo : Int} {n : Nat} : ItD K Hb Hs (rng3L lo n) (Itc lo 2 n) := fun i H _ => ⟨fun d hd => by
  obtain ⟨h1, rfl⟩ := rng3L_get hd
  exact ⟨h1, fun x H' ⟨e1, e2⟩ => ⟨e1, by rw [e2]; exact isI⟩⟩, fun hn => by
    have := List.getElem?_eq_none_iff.mp hn
    unfold rng3L at this
    rw [List.length_map, List.length_range] at this
    exact this⟩
def rng3 : List D → Out (List D)
  | [.int i, .int j, .int c] => guard' (c = 2 ∧ (-1000000000 ≤ i ∧ i ≤ 1000000000) ∧ -1000000000 ≤ j ∧ j ≤ 1000000000) (.ok (rng3L i ((j - i + 1) / 2).toNat))
  | _ => .stuck
theorem rgc2 {i j : Int} (h1 : -1000000000 ≤ i ∧ i ≤ 1000000000) (h2 : -1000000000 ≤ j ∧ j ≤ 1000000000) : RgC i j 2 ((j - i + 1) / 2).toNat := by
  have e : Builtin.Range.rangeSize i j 2 = (((j - i + 1) / 2).toNat : Int) := by
    unfold Builtin.Range.rangeSize
    rw [if_pos (by decide)]
    split <;> omega
  refine ⟨by decide, by decide, ?_, e⟩
  unfold Builtin.Range.small
  rw [e]
  simp only [Builtin.Range.rangeFitsLong, Bool.and_eq_true, Bool.or_eq_true, decide_eq_true_eq, beq_iff_eq, show ((2 : Int) > 0) by decide, if_true]
  omega
theorem isAll3 {K : PySem.W.Frag} {H : Hp} {d d2 d3 : D} {vs : List V} (h : IsAll K H [d, d2, d3] vs) : ∃ v u w, vs = [v, u, w] ∧ Is K H d v ∧ Is K H d2 u ∧ Is K H d3 w := by
  simp only [IsAll] at h
  obtain ⟨v, _, e1, h1, u, _, e2, h2, w, _, e3, h3, e4⟩ := h
  subst e4; subst e3; subst e2
  exact ⟨v, u, w, e1, h1, h2, h3⟩
variable {tg : Expr}
theorem hi_rng3 {e2 e3 : Expr} {f : Env → Out (List D)} (hm : X.mg "range" = none) (h : HA X W [e, e2, e3] f) (hg : Gl X "range" := by rfl) (hs : starEach [e, e2, e3] X.env = (false, eval e X.env) :: starEach [e2, e3] X.env := by rfl) (hpl : (backTo pos (starEach [e2, e3] X.env)).any (·.1) = false := by rfl) : HI X W tg (.Call (.Name "range" p1) [e, e2, e3] [] pos) (dA rng3 f) :=
  ⟨PI.imp (pi_range3 hg hm h.pa hs hpl) fun σ H Q ⟨F, Gs, Hs, ρ, r, p⟩ => ⟨F, Gs, Hs, ρ, r, (Post.seq anti_I p).imp fun vs H1 ⟨Hs1, ds, g1, h1, p1⟩ => by
  unfold rng3 at p1
  split at p1
  · rename_i i j c
    obtain ⟨⟨k0, k1, k2⟩, pk⟩ := guard_ok p1
    subst k0
    obtain ⟨v, u, w, e1, h1, h2, h3⟩ := isAll3 (show IsAll _ _ _ _ from h1)
    simp only [Is] at h1 h2 h3
    subst h1; subst h2; subst h3
    exact ⟨i, j, 2, _, e1, rgc2 k1 k2, Post.now (R := RI X.K) pk g1.sh itd_rng3⟩
  · exact p1.elim⟩⟩
/-! ### reversed(list) -/
def revLD : D → Out (List D)
  | .lst xs => .ok xs.reverse
  | _ => .stuck
theorem hi_rev {f : Env → Out D} (hm : X.mg "reversed" = none) (h : HD X W e f) (hg : Gl X "reversed" := by rfl) (hs : starEach [e] X.env = (false, eval e X.env) :: starEach [] X.env := by rfl) : HI X W tg (.Call (.Name "reversed" p1) [e] [] pos) (d1 revLD f) :=
  ⟨PI.imp (RT.pi_revA hg hm h.pe hs) fun σ H Q ⟨F, Gs, Hs, ρ, r, p⟩ => ⟨F, Gs, Hs, ρ, r, (Post.seq anti_I p).imp fun v H1 ⟨Hs1, d, g1, h1, p1⟩ => by
  have h1 : Is _ _ _ _ := h1
  cases d with
  | lst xs =>
    simp only [Is] at h1
    obtain ⟨t, vs, rfl, ht, hv⟩ := h1
    refine ⟨t, vs, rfl, .inl ⟨SqL.of (g1.sh _ _ ht), Post.now (R := RI X.K) p1 g1.sh (fun i H' ex => ?_)⟩⟩
    have hl := hv.len
    constructor
    · intro d hd
      have hi : i < xs.length := by
        have := (List.getElem?_eq_some_iff.mp hd).1
        rwa [List.length_reverse] at this
      rw [List.getElem?_reverse hi] at hd
      obtain ⟨v, e1, hv1⟩ := hv.get _ hd
      have hs' : SqL X.K H' t vs := SqL.of (ex _ _ ht)
      refine ⟨⟨by omega, vs, v, hs', by rw [hl]; exact e1⟩, fun x H2 ⟨q1, q2⟩ => ⟨q1, ?_⟩⟩
      have := q2 vs hs'
      rw [hl, e1] at this
      cases this
      exact hv1
    · intro hn
      have := List.getElem?_eq_none_iff.mp hn
      rw [List.length_reverse] at this
      show vs.length ≤ i
      omega
  | _ => exact p1.elim⟩⟩
/-! ### three at once; insert -/
def sPar3 (i j l : Nat) (f : Env → Out (List D)) : Env → Out Res := fun ρ => (f ρ).bind fun ds => match ds with
  | [d, d', d''] => .ok (.next (((ρ.set i (some (.d d))).set j (some (.d d'))).set l (some (.d d''))))
  | _ => .stuck
theorem hs_par3 (i j l : Nat) {y z : Str} {f : Env → Out (List D)} {px py pz pt : Pos} {kt k2 pt2} (hc : X.calm = true) (hN : X.N.Nodup) (hi : X.N[i]? = some x) (hj : X.N[j]? = some y) (hl : X.N[l]? = some z) (hij : i ≠ j) (hil : i ≠ l) (hjl : j ≠ l)
    (hx : X.env.scope.names.lookup x = some .local) (hy : X.env.scope.names.lookup y = some .local) (hz : X.env.scope.names.lookup z = some .local) (ha : HA X W [a, b, c] f)
    (hw : swappedStores [.Tuple [.Name x px, .Name y py, .Name z pz] kt pt] (.Tuple [a, b, c] k2 pt2) X.env = pure (some [x, y, z]))
    (hs : swapsWithSole [.Tuple [.Name x px, .Name y py, .Name z pz] kt pt] (.Tuple [a, b, c] k2 pt2) pos.line X.env = pure false := by rfl) : HS1 X W (.Assign [.Tuple [.Name x px, .Name y py, .Name z pz] kt pt] (.Tuple [a, b, c] k2 pt2) pos) [i, j, l] (sPar3 i j l f) :=
  ⟨PS.imp (ps_par3 hc hN hi hj hl hij hil hjl hx hy hz ha.pa hw hs) fun D σ H ⟨F, Gs, Hs, ρ, r, p⟩ => ⟨F, Gs, Hs, ρ, r, (postS_seq r p).imp fun vs H1 ⟨Hs1, ds, g1, h1, p1⟩ => by
    split at p1
    · rename_i d d' d''
      obtain ⟨v, u, w, e1, h2, h3, h4⟩ := isAll3 (show IsAll _ _ _ _ from h1)
      exact ⟨v, u, w, e1, p1 _ Hs1 H1 ((((r.grow g1).setD h2).setD h3).setD h4) (Ex.refl _) fun q hq => by
        simp only [List.mem_cons, List.not_mem_nil, or_false, not_or] at hq
        rw [List.getElem?_set_ne (Ne.symm hq.2.2), List.getElem?_set_ne (Ne.symm hq.2.1), List.getElem?_set_ne (Ne.symm hq.1)]⟩
    · exact p1.elim⟩, fun ρ ρ' e q hq => by
    obtain ⟨ds, _, e⟩ := bind_next e
    split at e
    · cases e
      simp only [List.mem_cons, List.not_mem_nil, or_false, not_or] at hq
      rw [List.getElem?_set_ne (Ne.symm hq.2.2), List.getElem?_set_ne (Ne.symm hq.2.1), List.getElem?_set_ne (Ne.symm hq.1)]
    · cases e⟩
end
end G

set_option Elab.async false
set_option linter.all false
set_option maxRecDepth 100000
set_option maxHeartbeats 4000000
namespace G
open PySem PySem.Spec L2
open Evl (Ex ex_l ex_t ex_rd)
/-! ### a list of lists of one's own -/
def llOf : S → Option (List (List D))
  | .ll xss => some xss
  | .l [] => some []
  | _ => none
section
variable {K : PySem.W.Frag} {mg : Str → Option Value} {F Gs Hs H : Hp} {σ : St} {ρ : Env}
abbrev InnerP (K : PySem.W.Frag) (Hs H : Hp) (q : Addr) (xs : List D) : Prop := ∃ vs, H q = some (.lst vs) ∧ IsAll K Hs xs vs
theorem own_ll {s : S} {v : V} {fp : List Addr} {xss : List (List D)} (h : llOf s = some xss) (o : Own K mg Hs H s v fp) : ∃ p ps, v = .ref p ∧ fp = p :: ps ∧ H p = some (.lst (ps.map V.ref)) ∧ Paired (InnerP K Hs H) ps xss := by
  cases s with
  | ll x => cases h; exact o
  | l x =>
    cases x with
    | nil =>
      cases h
      obtain ⟨p, vs, e1, e2, h1, h2⟩ := o
      simp only [IsAll] at h2
      subst h2
      exact ⟨p, [], e1, e2, h1, .nil⟩
    | cons _ _ => cases h
  | _ => cases h
theorem paired_upd {q : Addr} {o : HO} : ∀ {l : List Addr} {xs : List (List D)}, q ∉ l → Paired (InnerP K Hs H) l xs → Paired (InnerP K Hs (upd H q o)) l xs
  | _, _, _, .nil => .nil
  | _, _, hq, .cons ⟨vs, h1, h2⟩ t => .cons ⟨vs, by rw [upd_ne fun z => hq (by rw [z]; exact List.mem_cons_self)]; exact h1, h2⟩ (paired_upd (fun z => hq (List.mem_cons_of_mem _ z)) t)
theorem paired_snoc {α β : Type} {R : α → β → Prop} : ∀ {l : List α} {m : List β} {a : α} {b : β}, Paired R l m → R a b → Paired R (l ++ [a]) (m ++ [b])
  | _, _, _, _, .nil, h => .cons h .nil
  | _, _, _, _, .cons r t, h => .cons r (paired_snoc t h)
theorem paired_len {α β : Type} {R : α → β → Prop} : ∀ {l : List α} {m : List β}, Paired R l m → l.length = m.length
  | _, _, .nil => rfl
  | _, _, .cons _ t => by rw [List.length_cons, List.length_cons, paired_len t]
theorem paired_get {α β : Type} {R : α → β → Prop} : ∀ {l : List α} {m : List β} (j : Nat) {b : β}, Paired R l m → m[j]? = some b → ∃ a, l[j]? = some a ∧ R a b
  | _, _, _, _, .nil, e => by simp at e
  | _, _, 0, _, .cons r t, e => by simp at e; subst e; exact ⟨_, rfl, r⟩
  | _, _, j + 1, _, .cons r t, e => by simpa using paired_get j t (by simpa using e)
theorem paired_set {q : Addr} {vs : List V} {ys : List D} (hy : IsAll K Hs ys vs) : ∀ {l : List Addr} {m : List (List D)} (j : Nat), l.Nodup → l[j]? = some q → Paired (InnerP K Hs H) l m → Paired (InnerP K Hs (upd H q (.lst vs))) l (m.set j ys)
  | _, _, _, _, e, .nil => by simp at e
  | a :: l, b :: m, 0, nd, e, .cons r t => by
    simp at e; subst e
    exact .cons ⟨vs, upd_same, hy⟩ (paired_upd (List.nodup_cons.mp nd).1 t)
  | a :: l, b :: m, j + 1, nd, e, .cons ⟨us, h1, h2⟩ t => by
    have e : l[j]? = some q := by simpa using e
    have hm : q ∈ l := List.mem_of_getElem? e
    exact .cons ⟨us, by rw [upd_ne fun z => (List.nodup_cons.mp nd).1 (by rw [z]; exact hm)]; exact h1, h2⟩ (paired_set hy j (List.nodup_cons.mp nd).2 e t)
/-- one more list, new -/
theorem Rep.appL {i : Nat} {s : S} {xss : List (List D)} {ys : List D} {Hs0 H0 : Hp} {u : V} (r : Rep K mg F Gs Hs0 H0 σ ρ) (e : ρ[i]? = some (some s)) (hs : llOf s = some xss) (g : Grow Hs0 H0 Hs H) (hr : Rs K mg H0 Hs H (.l ys) u) :
    ∃ p vs, σ[i]? = some (some (.ref p)) ∧ H p = some (.lst vs) ∧ vs.length = xss.length ∧ Rep K mg F Gs Hs (upd H p (.lst (vs ++ [u]))) σ (ρ.set i (some (.ll (xss ++ [ys])))) := by
  obtain ⟨fp, sl0⟩ := r.sl
  have sl := sl0.grow g
  obtain ⟨v, e1, o⟩ := sl.own i _ e
  obtain ⟨p, ps, rfl, e3, h1, h2⟩ := own_ll hs o
  obtain ⟨fq, ⟨q, us, rfl, e5, k1, k2⟩, hf, _⟩ := hr
  have hq := hf q (by rw [e5]; simp)
  have pm : p ∈ fp i := by rw [e3]; simp
  obtain ⟨f1, f2, f3⟩ := sl.free i p pm
  have nq : ∀ j, q ∉ fp j := fun j hm => (sl0.free j q hm).2.2 hq.1
  have qp : q ≠ p := fun z => nq i (by rw [z]; exact pm)
  have nd := sl.nd i
  rw [e3] at nd
  have pnp := (List.nodup_cons.mp nd).1
  have qps : q ∉ ps := fun hm => nq i (by rw [e3]; exact List.mem_cons_of_mem _ hm)
  refine ⟨p, ps.map V.ref, e1, h1, by rw [List.length_map, paired_len h2], by rw [List.length_set]; exact r.len, ⟨Ex.mut (r.gr.h.trans g.h) f1, (r.gr.trans g).s, fun a x z => ?_, (r.gr.trans g).ap⟩, fun j => if j = i then p :: (ps ++ [q]) else fp j, fun j s' e4 => ?_, fun j b hb => ?_, fun j k b h3 h4 => ?_, fun j => ?_⟩
  · rw [upd_ne fun y => by rw [y, f2] at z; cases z]
    exact g.sh a x z
  · by_cases hj : j = i
    · subst hj
      have hl : j < ρ.length := (List.getElem?_eq_some_iff.mp e).1
      rw [List.getElem?_set_self hl] at e4
      cases e4
      rw [if_pos rfl]
      refine ⟨_, e1, p, ps ++ [q], rfl, rfl, ?_, ?_⟩
      · rw [upd_same, List.map_append]; rfl
      · refine paired_snoc (paired_upd pnp h2) ⟨us, ?_, k2⟩
        rw [upd_ne qp]; exact k1
    · rw [List.getElem?_set_ne (Ne.symm hj)] at e4
      obtain ⟨w, e6, o2⟩ := sl.own j s' e4
      rw [if_neg hj]
      exact ⟨w, e6, o2.frame fun z => hj (sl.sep j i p z pm)⟩
  · by_cases hj : j = i
    · subst hj
      rw [if_pos rfl] at hb
      rcases List.mem_cons.mp hb with z | z
      · rw [z]; exact ⟨f1, f2, by rw [upd_same]; simp⟩
      · rcases List.mem_append.mp z with z | z
        · obtain ⟨a1, a2, a3⟩ := sl.free j b (by rw [e3]; exact List.mem_cons_of_mem _ z)
          refine ⟨a1, a2, ?_⟩
          rw [upd_ne fun y => pnp (by rw [← y]; exact z)]; exact a3
        · have z := List.mem_singleton.mp z
          rw [z]
          exact ⟨Evl.fresh_back r.gr.h hq.1, hq.2, by rw [upd_ne qp, k1]; simp⟩
    · rw [if_neg hj] at hb
      obtain ⟨a1, a2, a3⟩ := sl.free j b hb
      refine ⟨a1, a2, ?_⟩
      rw [upd_ne fun y => hj (sl.sep j i b hb (by rw [y]; exact pm))]; exact a3
  · have key : ∀ j, b ∈ (if j = i then p :: (ps ++ [q]) else fp j) → (j = i ∧ b = q) ∨ b ∈ fp j := fun j hb => by
      by_cases hj : j = i
      · rw [if_pos hj] at hb
        rcases List.mem_cons.mp hb with z | z
        · right; rw [hj, e3, z]; simp
        · rcases List.mem_append.mp z with z | z
          · right; rw [hj, e3]; exact List.mem_cons_of_mem _ z
          · left; exact ⟨hj, List.mem_singleton.mp z⟩
      · rw [if_neg hj] at hb; exact .inr hb
    rcases key j h3 with ⟨a1, a2⟩ | a1
    · rcases key k h4 with ⟨b1, b2⟩ | b1
      · rw [a1, b1]
      · exact absurd (a2 ▸ b1) (nq k)
    · rcases key k h4 with ⟨b1, b2⟩ | b1
      · exact absurd (b2 ▸ a1) (nq j)
      · exact sl.sep j k b a1 b1
  · show (if j = i then p :: (ps ++ [q]) else fp j).Nodup
    split
    · refine List.nodup_cons.mpr ⟨fun z => ?_, ?_⟩
      · rcases List.mem_append.mp z with z | z
        · exact pnp z
        · exact qp (List.mem_singleton.mp z).symm
      · refine List.nodup_append.mpr ⟨(List.nodup_cons.mp nd).2, by simp, fun a ha b hb => ?_⟩
        rw [List.mem_singleton.mp hb]
        exact fun z => qps (by rw [← z]; exact ha)
    · exact sl.nd j
/-- the j-th list becomes another one -/
theorem Rep.put2 {i j : Nat} {xss : List (List D)} {xs ys : List D} (r : Rep K mg F Gs Hs H σ ρ) (e : ρ[i]? = some (some (.ll xss))) (hj : xss[j]? = some xs) :
    ∃ p vs q us, σ[i]? = some (some (.ref p)) ∧ H p = some (.lst vs) ∧ vs.length = xss.length ∧ vs[j]? = some (.ref q) ∧ H q = some (.lst us) ∧ Hs q = none ∧ IsAll K Hs xs us ∧ ∀ us', IsAll K Hs ys us' → Rep K mg F Gs Hs (upd H q (.lst us')) σ (ρ.set i (some (.ll (xss.set j ys)))) := by
  obtain ⟨fp, sl⟩ := r.sl
  obtain ⟨v, e1, p, ps, rfl, e3, h1, h2⟩ := sl.own i _ e
  obtain ⟨q, e4, us, h3, h4⟩ := paired_get j h2 hj
  have qm : q ∈ fp i := by rw [e3]; exact List.mem_cons_of_mem _ (List.mem_of_getElem? e4)
  obtain ⟨f1, f2, f3⟩ := sl.free i q qm
  have nd := sl.nd i
  rw [e3] at nd
  have pnp := (List.nodup_cons.mp nd).1
  have pq : p ≠ q := fun z => pnp (by rw [z]; exact List.mem_of_getElem? e4)
  refine ⟨p, ps.map V.ref, q, us, e1, h1, by rw [List.length_map, paired_len h2], by rw [List.getElem?_map, e4]; rfl, h3, f2, h4, fun us' hu => ⟨by rw [List.length_set]; exact r.len, ⟨Ex.mut r.gr.h f1, r.gr.s, fun a x z => ?_, r.gr.ap⟩, fp, fun k s' e5 => ?_, fun k b hb => ?_, sl.sep, sl.nd⟩⟩
  · rw [upd_ne fun y => by rw [y, f2] at z; cases z]
    exact r.gr.sh a x z
  · by_cases hk : k = i
    · subst hk
      have hl : k < ρ.length := (List.getElem?_eq_some_iff.mp e).1
      rw [List.getElem?_set_self hl] at e5
      cases e5
      exact ⟨_, e1, p, ps, rfl, e3, by rw [upd_ne pq]; exact h1, paired_set hu j (List.nodup_cons.mp nd).2 e4 h2⟩
    · rw [List.getElem?_set_ne (Ne.symm hk)] at e5
      obtain ⟨w, e6, o2⟩ := sl.own k s' e5
      exact ⟨w, e6, o2.frame fun z => hk (sl.sep k i q z qm)⟩
  · obtain ⟨a1, a2, a3⟩ := sl.free k b hb
    refine ⟨a1, a2, ?_⟩
    by_cases hb' : b = q
    · rw [hb', upd_same]; simp
    · rw [upd_ne hb']; exact a3
end
section
variable {X : Cx} {W : WX} {e a b c : Expr} {es : List Expr} {pos p1 p2 p3 p4 apos : Pos} {x : Str}
def sAppL (i : Nat) (f : Env → Out S) : Env → Out Res := fun ρ => match ρ[i]? with
  | some (some s) => match llOf s with
    | some xss => (f ρ).bind fun t => match t with
      | .l ys => guard' (xss.length < cap) (.ok (.next (ρ.set i (some (.ll (xss ++ [ys]))))))
      | _ => .stuck
    | none => .stuck
  | _ => .stuck
theorem hs_appL (i : Nat) {f : Env → Out S} (hpe : PE X (.Call (.Attribute (.Name x p1) "append" apos) [e] [] p2) (tBM X.K "list" rAppend (tVar i) (tCons (tG (RE X.K X.mg) X.K X.mg W f) tNil))) (hs : swapsWith (.Call (.Attribute (.Name x p1) "append" apos) [e] [] p2) none pos.line X.env = pure false := by rfl) :
    HS1 X W (.Expr (.Call (.Attribute (.Name x p1) "append" apos) [e] [] p2) pos) [i] (sAppL i f) :=
  ⟨PS.imp (ps_expr hpe hs) fun D σ H ⟨F, Gs, Hs, ρ, r, p⟩ => by
    unfold sAppL at p
    split at p
    · rename_i s eq
      split at p
      · rename_i xss hll
        obtain ⟨fp, sl⟩ := r.sl
        obtain ⟨v, e1, o⟩ := sl.own i _ eq
        obtain ⟨q, ps, rfl, e3, h1, h2⟩ := own_ll hll o
        refine ⟨.ref q, e1, .inl ⟨rfl, _, SqL.of h1⟩, F, Gs, Hs, ρ, r, (postS_seq r p).imp fun u H1 ⟨Hs1, t, g1, ht, p1⟩ => ?_⟩
        cases t with
        | l ys =>
          obtain ⟨ok, p1⟩ := guard_okS p1
          obtain ⟨p', vs, e2, k1, k2, k3⟩ := r.appL eq hll g1 ht
          rw [e1] at e2
          cases e2
          exact ⟨q, vs, u, rfl, rfl, k1, by rw [k2]; exact cap_lt (by omega), p1 σ Hs1 _ k3 (Ex.refl _) fun _ _ => rfl⟩
        | _ => exact p1.elim
      · exact p.elim
    · exact p.elim, fun ρ ρ' e j hj => by
    unfold sAppL at e
    split at e
    · split at e
      · obtain ⟨t, _, e⟩ := bind_next e
        cases t with
        | l ys => obtain ⟨_, e⟩ := guard_eq e; cases e; exact congrArg mq (set_out hj)
        | _ => cases e
      · cases e
    · cases e⟩
/-- x[k].append(d), x[k].extend(d) -/
def sMut2 (i : Nat) (g f : Env → Out D) (k : List D → D → Out (List D)) : Env → Out Res := fun ρ => match ρ[i]? with
  | some (some (.ll xss)) => (g ρ).bind fun z => match z with
    | .int n => match ixN xss.length n with
      | some j => match xss[j]? with
        | some xs => (f ρ).bind fun d => (k xs d).bind fun ys => .ok (.next (ρ.set i (some (.ll (xss.set j ys)))))
        | none => .stuck
      | none => .stuck
    | _ => .stuck
  | _ => .stuck
theorem fix_mut2 {i : Nat} {g f : Env → Out D} {k : List D → D → Out (List D)} : Fix [i] (sMut2 i g f k) := fun ρ ρ' e j hj => by
  unfold sMut2 at e
  split at e
  · obtain ⟨z, _, e⟩ := bind_next e
    cases z with
    | int n =>
      dsimp only at e
      split at e
      · split at e
        · obtain ⟨d, _, e⟩ := bind_next e
          obtain ⟨ys, _, e⟩ := bind_next e
          cases e; exact congrArg mq (set_out hj)
        · cases e
      · cases e
    | _ => cases e
  · cases e
theorem mut2_read {i : Nat} {g f : Env → Out D} {k : List D → D → Out (List D)} {En : Ends} {σ : St} {H : Hp} {r : V → V → Hp → VK → Prop}
    (hr : ∀ (Hs H : Hp) (p : Addr) (vs : List V) (xs ys : List D) (d : D) (v : V) (Q : VK), Ex Hs H → H p = some (.lst vs) → Hs p = none → IsAll X.K Hs xs vs → Is X.K Hs d v → k xs d = .ok ys → (∀ vs', IsAll X.K Hs ys vs' → Q .non (upd H p (.lst vs'))) → r (.ref p) v H Q)
    (hx : ∀ xs d c p, k xs d ≠ .exc c p) (h : tS X.K X.mg W [i] (sMut2 i g f k) En σ H) :
    tOp (rIxL X.K) (tVar i) (tG (RD X.K) X.K X.mg W g) σ H fun x H1 => tyV X.K "list" x H1 ∧ tG (RD X.K) X.K X.mg W f σ H1 fun v H2 => r x v H2 fun _ H3 => En.nx σ H3 := by
  obtain ⟨F, Gs, Hs, ρ, rep, p⟩ := h
  unfold sMut2 at p
  split at p
  · rename_i xss eq
    obtain ⟨fp, sl⟩ := rep.sl
    obtain ⟨v0, e0, _⟩ := sl.own i _ eq
    refine ⟨v0, e0, F, Gs, Hs, ρ, rep, (postS_seq rep p).imp fun u H1 ⟨Hs1, z, g1, hz, p1⟩ => ?_⟩
    have hz : Is _ _ _ _ := hz
    cases z with
    | int n =>
      dsimp only at p1
      split at p1
      · rename_i j hj
        split at p1
        · rename_i xs hxs
          simp only [Is] at hz
          subst hz
          have rep1 := rep.grow g1
          obtain ⟨pp, vs, q, us, a1, a2, a3, a4, a5, a6, a7, _⟩ := rep1.put2 (ys := []) eq hxs
          rw [e0] at a1
          cases a1
          refine ⟨pp, vs, n, .ref q, rfl, rfl, SqL.of a2, by unfold atI; rw [a3, hj]; exact a4, .inl ⟨rfl, us, SqL.of a5⟩, F, Gs, Hs1, ρ, rep1, (postS_seq rep1 p1).imp fun v H2 ⟨Hs2, d, g2, hd, p2⟩ => ?_⟩
          cases zz : k xs d with
          | ok ys =>
            rw [zz] at p2
            have rep2 := rep1.grow g2
            obtain ⟨pp', vs', q', us', b1, b2, b3, b4, b5, b6, b7, b8⟩ := rep2.put2 (ys := ys) eq hxs
            rw [e0] at b1
            cases b1
            have e2 := g2.h _ _ a2
            rw [b2] at e2
            cases e2
            rw [a4] at b4
            cases b4
            exact hr Hs2 H2 q us' xs ys d v _ g2.sh b5 b6 b7 hd zz fun vs' hv => p2 σ Hs2 _ (b8 vs' hv) (Ex.refl _) fun _ _ => rfl
          | exc c p' => exact (hx xs d c p' zz).elim
          | stuck => rw [zz] at p2; exact p2.elim
        · exact p1.elim
      · exact p1.elim
    | _ => exact p1.elim
  · exact p.elim
theorem kExt_exc (xs : List D) (d : D) (c : Str) (p : Option Int) : kExt xs d ≠ .exc c p := fun z => by
  unfold kExt at z
  cases d with
  | lst zs => exact guard_exc z
  | _ => cases z
variable {ix : Expr} {spos : Pos}
theorem hs_app2 (i : Nat) {g f : Env → Out D} (hpe : PE X (.Call (.Attribute (.Subscript (.Name x p1) ix spos) "append" apos) [e] [] p2) (tBM X.K "list" rAppend (tOp (rIxL X.K) (tVar i) (tG (RD X.K) X.K X.mg W g)) (tCons (tG (RD X.K) X.K X.mg W f) tNil))) (hs : swapsWith (.Call (.Attribute (.Subscript (.Name x p1) ix spos) "append" apos) [e] [] p2) none pos.line X.env = pure false := by rfl) :
    HS1 X W (.Expr (.Call (.Attribute (.Subscript (.Name x p1) ix spos) "append" apos) [e] [] p2) pos) [i] (sMut2 i g f kApp) :=
  ⟨PS.imp (ps_expr hpe hs) fun D σ H h => mut2_read (r := fun x v H Q => rAppend x [v] H Q) (fun Hs H p vs xs ys d v Q e h1 h2 h3 h4 h5 q => by
    obtain ⟨ok, h5⟩ := guard_eq h5
    cases h5
    exact ⟨p, vs, v, rfl, rfl, h1, by rw [h3.len]; exact cap_lt (by omega), q _ (h3.app (isAll_cons h4 isAll_nil))⟩) (fun _ _ _ _ => guard_exc) h, fix_mut2⟩
theorem hs_ext2 (i : Nat) {g f : Env → Out D} (hpe : PE X (.Call (.Attribute (.Subscript (.Name x p1) ix spos) "extend" apos) [e] [] p2) (tBM X.K "list" rExtend (tOp (rIxL X.K) (tVar i) (tG (RD X.K) X.K X.mg W g)) (tCons (tG (RD X.K) X.K X.mg W f) tNil))) (hs : swapsWith (.Call (.Attribute (.Subscript (.Name x p1) ix spos) "extend" apos) [e] [] p2) none pos.line X.env = pure false := by rfl) :
    HS1 X W (.Expr (.Call (.Attribute (.Subscript (.Name x p1) ix spos) "extend" apos) [e] [] p2) pos) [i] (sMut2 i g f kExt) :=
  ⟨PS.imp (ps_expr hpe hs) fun D σ H h => mut2_read (r := fun x v H Q => rExtend x [v] H Q) (fun Hs H p vs xs ys d v Q e h1 h2 h3 h4 h5 q => by
    unfold kExt at h5
    cases d with
    | lst zs =>
      obtain ⟨ok, h5⟩ := guard_eq h5
      cases h5
      simp only [Is] at h4
      obtain ⟨b, us, rfl, hb, hu⟩ := h4
      have l1 := h3.len
      have l2 := hu.len
      exact ⟨p, b, vs, us, rfl, rfl, h1, e _ _ hb, cap_le (by omega), q _ (h3.app hu)⟩
    | _ => cases h5) kExt_exc h, fix_mut2⟩
end
end G

set_option Elab.async false
set_option linter.all false
set_option maxRecDepth 100000
set_option maxHeartbeats 4000000
namespace G
open PySem PySem.Spec PyProof.Rows L2
open Evl (Ex ex_l ex_t ex_rd)
/-! ### t[::-1] of a tuple -/
section
variable {prog : Program} {w : World} {A : Around} {E : Value → Shared → Prop} {s : Shared}
theorem rev_places (n : Nat) : Builtin.Slice.sliceAdjust none none (-1) (n : Int) = ((n : Int) - 1, -1) ∧ Builtin.Slice.slicePlaces ((n : Int) - 1) (-1) (-1) = n := by
  constructor
  · simp [Builtin.Slice.sliceAdjust]
  · unfold Builtin.Slice.slicePlaces
    first | (simp; omega) | (split <;> omega) | simp
theorem applied_rev {sl : Addr} {vl vu vs : Value} {n : Nat} {Q : Int × Int × Nat → Shared → Prop} (hs : s.heap.IsSliceOf sl vl vu vs) (pl : IsPart vl none) (pu : IsPart vu none) (ps : IsPart vs (some (-1))) (h : Q ((n : Int) - 1, -1, n) s) :
    wpAny (model prog w) A (Builtin.Slice.sliceApplied (.ref sl) (pure (n : Int))) Q E s := by
  obtain ⟨os, hos, hcs, hds⟩ := id hs
  unfold Builtin.Slice.sliceApplied Builtin.Slice.sliceFields
  refine wpAny_bind (wpAny_bind (wpAny_field hos hds (x := vl) rfl (wpAny_bind (wpAny_field hos hds (x := vu) rfl (wpAny_bind (wpAny_field hos hds (x := vs) rfl (wpAny_pure ?_)))))))
  refine wpAny_bind (HT.slicePart_ ps ?_)
  show wpAny _ _ (if ((-1 : Int) == 0) = true then _ else _) _ _ s
  rw [if_neg (by decide)]
  refine wpAny_bind (HT.slicePart_ pl (wpAny_bind (HT.slicePart_ pu (wpAny_bind (wpAny_pure ?_)))))
  show wpAny _ _ (match Builtin.Slice.sliceAdjust none none (-1) (n : Int) with | (lo, hi) => pure (lo, (-1 : Int), Builtin.Slice.slicePlaces lo hi (-1))) _ _ s
  rw [(rev_places n).1]
  show wpAny _ _ (pure ((n : Int) - 1, (-1 : Int), Builtin.Slice.slicePlaces ((n : Int) - 1) (-1) (-1))) _ _ s
  rw [(rev_places n).2]
  exact wpAny_pure h
theorem rev_pick (xs : Array Value) : ((List.range xs.size).filterMap fun (k : Nat) => xs[((xs.size : Int) - 1 + (k : Int) * -1).toNat]?).toArray = xs.toList.reverse.toArray := by
  congr 1
  obtain ⟨l⟩ := xs
  have go : ∀ (l : List Value), (List.range l.length).filterMap (fun (k : Nat) => l[((l.length : Int) - 1 + (k : Int) * -1).toNat]?) = l.reverse := fun l => by
    have h1 : ∀ k ∈ List.range l.length, l[((l.length : Int) - 1 + (k : Int) * -1).toNat]? = l.reverse[k]? := fun k hk => by
      rw [List.mem_range] at hk
      rw [List.getElem?_reverse hk]
      congr 1; omega
    have h2 : ∀ (L : List Nat), (∀ k ∈ L, k ∈ List.range l.length) → L.filterMap (fun (k : Nat) => l[((l.length : Int) - 1 + (k : Int) * -1).toNat]?) = L.filterMap (fun (k : Nat) => l.reverse[k]?) := fun L => by
      induction L with
      | nil => intro _; rfl
      | cons x L ih =>
        intro hL
        rw [List.filterMap_cons, List.filterMap_cons, h1 x (hL x List.mem_cons_self), ih fun k hk => hL k (List.mem_cons_of_mem _ hk)]
    rw [h2 _ fun _ h => h]
    clear h2
    generalize hr : l.reverse = r
    have hl : l.length = r.length := by rw [← hr, List.length_reverse]
    rw [hl]
    clear hr h1 hl
    induction r with
    | nil => rfl
    | cons x r ih =>
      rw [List.length_cons, List.range_succ_eq_map, List.filterMap_cons, List.getElem?_cons_zero]
      show x :: _ = _
      rw [List.filterMap_map]
      congr 1
  simpa using go l
theorem getItem_tup_rev {t sl : Addr} {xs : Array Value} {vl vu vs : Value} {Q : Value → Shared → Prop} (ht : IsTup s.heap t xs) (hs : s.heap.IsSliceOf sl vl vu vs) (pl : IsPart vl none) (pu : IsPart vu none) (ps : IsPart vs (some (-1))) (hz : xs.size ≤ sizeLine)
    (h : Q (.ref s.heap.objs.size) { s with heap := s.heap.push { cls := .type "tuple", data := .seq xs.toList.reverse.toArray } }) : wpAny (model prog w) A (getItem (.ref t) (.ref sl)) Q E s := by
  have hsz : sizeOk (.seq xs.toList.reverse.toArray) := by
    show xs.toList.reverse.toArray.size ≤ sizeLine
    rw [List.size_toArray, List.length_reverse, Array.length_toList]; exact hz
  obtain ⟨os, hos, hcs, hds⟩ := id hs
  have hTs : s.TypeIs (.ref sl) "slice" := ⟨os, hos, hcs⟩
  unfold getItem
  try with_reducible refine wpAny_holding ?_
  first | refine wpAny_bind (wpAny_pure ?_) | skip
  refine wpAny_bind (wpAny_sequenceKey ht.typeIs (by decide) ?_)
  refine wpAny_bind (wpAny_callSpecial?_slot (name := Str.ofString "__getitem__") ht.typeIs slot_tuple_getitem (wpAny_call_entry slot_tuple_getitem ht.typeIs entry_tuple_getitem ?_ (args_tuple_getitem _ _)))
  show wpAny _ _ (Builtin.Tuple.tupleItemsOf (.ref t) >>= _) _ _ s
  refine wpAny_bind (tupleItemsOf_ ht ?_)
  refine wpAny_bind (wpAny_typeOf hTs ?_)
  rw [if_pos (by decide)]
  refine wpAny_bind (applied_rev hs pl pu ps ?_)
  show wpAny _ _ (if (((xs.size : Int) - 1) == 0 && (-1 : Int) == 1 && xs.size == xs.size) = true then _ else _) _ _ s
  rw [if_neg (by simp), rev_pick]
  first
    | exact wpAny_bind (m := Builtin.Tuple.tupleExact _) (wpAny_newObj_type (wpAny_pure ⟨_, rfl, wpAny_pure h⟩) hsz)
    | exact wpAny_bind (wpAny_bind (m := Builtin.Tuple.tupleExact _) (wpAny_newObj_type (wpAny_pure ⟨_, rfl, wpAny_pure h⟩) hsz))
    | exact wpAny_bind (m := Builtin.Tuple.tupleExact _) (wpAny_newObj_type (wpAny_bind (wpAny_pure (wpAny_pure ⟨_, rfl, wpAny_pure h⟩))) hsz)
    | exact wpAny_bind (wpAny_bind (m := Builtin.Tuple.tupleExact _) (wpAny_newObj_type (wpAny_pure (wpAny_pure ⟨_, rfl, wpAny_pure h⟩)) hsz))
end
section
variable {X : Cx} {W : WX} {e a b c : Expr} {es : List Expr} {pos : Pos}
def tRevT (K : PySem.W.Frag) (te : TE) : TE := fun σ H Q => te σ H fun x H1 => ∃ a xs, x = .ref a ∧ SqT K H1 a xs ∧ ∀ p, H1 p = none → Q (.ref p) (upd H1 p (.tup xs.reverse))
theorem pe_revT {te : TE} {k : Nat} {p1 p2 p3 : Pos} (he : PE X e te) : PE X (.Subscript e (.Slice none none (some (.UnaryOp .USub (.Constant (.int 1) k p1) p2)) p3) pos) (tRevT X.K te) := by
  refine ⟨fun pins s σ H Q I h => Subscript_ (thn (he.run pins s σ H _ I h) fun v s1 ⟨x, H1, I1, r1, a, xs, ex, hx, q⟩ => ?_)⟩
  subst ex
  cases r1
  have hm1 : PO X (some (.UnaryOp .USub (.Constant (.int 1) k p1) p2)) (tPart (tUn (rU fun i => .int (-i)) (tC (.int 1)))) := po_some (pe_un un_neg pe_int)
  refine wpAny_Slice (thn (po_none.run pins s1 σ H1 (fun o G => o = none ∧ G = H1) I1 ⟨rfl, rfl⟩) fun vl s2 ⟨l, H2, I2, pl, el, e2⟩ => ?_)
  subst el e2
  refine thn (po_none.run pins s2 σ H2 (fun o G => o = none ∧ G = H2) I2 ⟨rfl, rfl⟩) fun vu s3 ⟨u, H3, I3, pu, eu, e3⟩ => ?_
  subst eu e3
  refine thn (hm1.run pins s3 σ H3 (fun o G => o = some (-1) ∧ G = H3) I3 ⟨1, rfl, -1, rfl, rfl, rfl⟩) fun vs s4 ⟨o, H4, I4, ps, eo, e4⟩ => ?_
  subst eo e4
  have I5 : Inv X pins σ H4 { s4 with heap := s4.heap.push { cls := .type "slice", data := .fields #[vl, vu, vs] } } := I4.kept (t' := s4.toks) fun b ob z => Heap.get?_push_of_some _ z
  obtain ⟨its, r, ht, hz⟩ := I5.tuple hx
  have hlen := r.length
  show wpAny (model X.prog X.w) X.A (subscriptTail e (.Slice none none (some (.UnaryOp .USub (.Constant (.int 1) k p1) p2)) p3) (.ref a) (.ref s4.heap.objs.size)) _ X.xe _
  refine tail_any (ops := [.ref a, .ref s4.heap.objs.size]) ht.typeIs slot_tuple_getitem.lookup ?_ (by with_unfolding_all rfl)
  refine getItem_tup_rev ht (Heap.IsSliceOf.new _ vl vu vs) pl pu ps (by rw [List.size_toArray]; omega) ?_
  refine ⟨.ref _, _, I5.laid (t' := s4.toks) (o := .tup xs.reverse) (fun b ob z => Heap.get?_push_of_some _ z) (Nat.le_refl _) ?_, rfl, q _ (I5.hok.fresh (Nat.le_refl _))⟩
  exact ⟨by rw [List.length_reverse]; exact hz, _, r.reverse, IsTup.new _ _⟩
def revT : D → Out D
  | .tup xs => .ok (.tup xs.reverse)
  | _ => .stuck
theorem hd_revT {k : Nat} {p1 p2 p3 : Pos} {f : Env → Out D} (ha : HD X W a f) : HD X W (.Subscript a (.Slice none none (some (.UnaryOp .USub (.Constant (.int 1) k p1) p2)) p3) pos) (d1 revT f) :=
  ⟨PE.imp (pe_revT ha.pe) fun σ H Q ⟨F, Gs, Hs, ρ, r, p⟩ => ⟨F, Gs, Hs, ρ, r, (Post.seq anti_D p).imp fun v H1 ⟨Hs1, d, g1, h1, p1⟩ => by
    have h1 : Is _ _ _ _ := h1
    cases d with
    | tup xs =>
      simp only [Is] at h1
      obtain ⟨t, vs, rfl, ht, hv⟩ := h1
      exact ⟨t, vs, rfl, ex_t g1.sh ht, fun q hq => p1.later (grow_new g1.sh hq) (is_tup_new g1.sh hq hv.rev)⟩
    | _ => exact p1.elim⟩⟩
/-! ### targets within targets -/
structure GRds (K : PySem.W.Frag) (mg : Str → Option Value) (g : TGs) (asg : List Nat) (k : List D → Env → Out Env) : Prop where
  rd : ∀ (F Gs Hs H : Hp) (σ : L2.St) (ρ : Env) (ds : List D) (vs : List V) (Q : L2.St → Hp → Prop) (ρ' : Env), Rep K mg F Gs Hs H σ ρ → IsAll K Hs ds vs → k ds ρ = .ok ρ' → (∀ σ', Rep K mg F Gs Hs H σ' ρ' → (∀ i, i ∉ asg → σ'[i]? = σ[i]?) → Q σ' H) → g vs σ H Q
  fix : ∀ ds ρ ρ', k ds ρ = .ok ρ' → ∀ i, i ∉ asg → ρ'[i]? = ρ[i]?
  exc : ∀ ds ρ c p, k ds ρ ≠ .exc c p
  len : ∀ ds ρ ρ', k ds ρ = .ok ρ' → ρ'.length = ρ.length
def kNil : List D → Env → Out Env := fun ds ρ => match ds with
  | [] => .ok ρ
  | _ => .stuck
def kCons (k1 : D → Env → Out Env) (k2 : List D → Env → Out Env) : List D → Env → Out Env := fun ds ρ => match ds with
  | d :: r => (k1 d ρ).bind fun ρ1 => k2 r ρ1
  | [] => .stuck
def kTup (n : Nat) (k : List D → Env → Out Env) : D → Env → Out Env := fun d ρ => match d with
  | .tup ds => guard' (ds.length = n) (k ds ρ)
  | .lst ds => guard' (ds.length = n) (k ds ρ)
  | _ => .stuck
theorem grds_nil {K : PySem.W.Frag} {mg : Str → Option Value} : GRds K mg gNil [] kNil :=
  ⟨fun F Gs Hs H σ ρ ds vs Q ρ' r h e q => by
    cases ds with
    | nil => cases e; simp only [IsAll] at h; exact ⟨h, q σ r fun _ _ => rfl⟩
    | cons _ _ => (cases e), fun ds ρ ρ' e i _ => by
    cases ds with
    | nil => cases e; rfl
    | cons _ _ => (cases e), fun ds ρ c p e => by
    cases ds with
    | nil => cases e
    | cons _ _ => (cases e), fun ds ρ ρ' e => by
    cases ds with
    | nil => cases e; rfl
    | cons _ _ => (cases e)⟩
theorem grds_cons {K : PySem.W.Frag} {mg : Str → Option Value} {g : TG} {gs : TGs} {asg asg' : List Nat} {k1 : D → Env → Out Env} {k2 : List D → Env → Out Env} (h1 : GRd K mg g asg k1) (h2 : GRds K mg gs asg' k2) : GRds K mg (gCons g gs) (asg ++ asg') (kCons k1 k2) :=
  ⟨fun F Gs Hs H σ ρ ds vs Q ρ' r h e q => by
    cases ds with
    | nil => cases e
    | cons d ds =>
      obtain ⟨ρ1, e1, e2⟩ := bind_ok e
      simp only [IsAll] at h
      obtain ⟨v, vr, rfl, hv, hr⟩ := h
      exact ⟨v, vr, rfl, h1.rd F Gs Hs H σ ρ d v _ ρ1 r hv e1 fun σ1 r1 f1 => h2.rd F Gs Hs H σ1 ρ1 ds vr Q ρ' r1 hr e2 fun σ2 r2 f2 => q σ2 r2 fun i hi => (f2 i fun z => hi (List.mem_append_right _ z)).trans (f1 i fun z => hi (List.mem_append_left _ z))⟩, fun ds ρ ρ' e i hi => by
    cases ds with
    | nil => cases e
    | cons d ds =>
      obtain ⟨ρ1, e1, e2⟩ := bind_ok e
      exact (h2.fix _ _ _ e2 i fun z => hi (List.mem_append_right _ z)).trans (h1.fix _ _ _ e1 i fun z => hi (List.mem_append_left _ z)), fun ds ρ c p e => by
    cases ds with
    | nil => cases e
    | cons d ds =>
      have e : (k1 d ρ).bind (fun ρ1 => k2 ds ρ1) = .exc c p := e
      cases z : k1 d ρ with
      | ok ρ1 => rw [z] at e; exact h2.exc _ _ _ _ e
      | exc c' p' => exact h1.exc _ _ _ _ z
      | stuck => (rw [z] at e; cases e), fun ds ρ ρ' e => by
    cases ds with
    | nil => cases e
    | cons d ds =>
      obtain ⟨ρ1, e1, e2⟩ := bind_ok e
      exact (h2.len _ _ _ e2).trans (h1.len _ _ _ e1)⟩
def gBothG (K : PySem.W.Frag) (n : Nat) (gs : TGs) : TG := fun v σ H Q => gTup K n gs v σ H Q ∨ gLst K n gs v σ H Q
theorem grd_tup {K : PySem.W.Frag} {mg : Str → Option Value} {n : Nat} {gs : TGs} {asg : List Nat} {k : List D → Env → Out Env} (h : GRds K mg gs asg k) : GRd K mg (gBothG K n gs) asg (kTup n k) :=
  ⟨fun F Gs Hs H σ ρ d v Q ρ' r hd e q => by
    unfold kTup at e
    cases d with
    | tup ds =>
      obtain ⟨hl, e⟩ := guard_eq e
      simp only [Is] at hd
      obtain ⟨t, vs, rfl, ht, hv⟩ := hd
      exact .inl ⟨t, vs, rfl, ex_t r.sh ht, by rw [hv.len]; exact hl, h.rd F Gs Hs H σ ρ ds vs Q ρ' r hv e q⟩
    | lst ds =>
      obtain ⟨hl, e⟩ := guard_eq e
      simp only [Is] at hd
      obtain ⟨t, vs, rfl, ht, hv⟩ := hd
      exact .inr ⟨t, vs, rfl, SqL.of (r.sh _ _ ht), by rw [hv.len]; exact hl, h.rd F Gs Hs H σ ρ ds vs Q ρ' r hv e q⟩
    | _ => (cases e), fun d ρ ρ' e i hi => by
    unfold kTup at e
    cases d with
    | tup ds => exact h.fix _ _ _ (guard_eq e).2 i hi
    | lst ds => exact h.fix _ _ _ (guard_eq e).2 i hi
    | _ => (cases e), fun d ρ c p e => by
    unfold kTup guard' at e
    cases d with
    | tup ds =>
      dsimp only at e
      split at e
      · exact h.exc _ _ _ _ e
      · cases e
    | lst ds =>
      dsimp only at e
      split at e
      · exact h.exc _ _ _ _ e
      · cases e
    | _ => (cases e), fun d ρ ρ' e => by
    unfold kTup at e
    cases d with
    | tup ds => exact h.len _ _ _ (guard_eq e).2
    | lst ds => exact h.len _ _ _ (guard_eq e).2
    | _ => (cases e)⟩
end
end G

set_option Elab.async false
set_option linter.all false
set_option maxRecDepth 100000
set_option maxHeartbeats 4000000
namespace G
open PySem PySem.Spec L2
open Evl (Ex ex_l ex_t ex_rd)
section
variable {X : Cx} {W : WX} {e a b c : Expr} {es : List Expr} {pos p1 p2 p3 p4 : Pos} {x : Str}
/-! ### min of a list -/
def minI : Int → List Int → Int
  | m, [] => m
  | m, y :: r => minI (if y < m then y else m) r
theorem minI_le : ∀ (l : List Int) (m : Int), minI m l ≤ m ∧ ∀ y ∈ l, minI m l ≤ y
  | [], m => ⟨Int.le_refl _, fun _ h => nomatch h⟩
  | y :: r, m => by
    obtain ⟨h1, h2⟩ := minI_le r (if y < m then y else m)
    have h3 : (if y < m then y else m) ≤ m ∧ (if y < m then y else m) ≤ y := by split <;> omega
    refine ⟨Int.le_trans h1 h3.1, fun z hz => ?_⟩
    rcases List.mem_cons.mp hz with e | e
    · subst e; exact Int.le_trans h1 h3.2
    · exact h2 z e
theorem minI_mem : ∀ (l : List Int) (m : Int), minI m l = m ∨ minI m l ∈ l
  | [], m => .inl rfl
  | y :: r, m => by
    rcases minI_mem r (if y < m then y else m) with h | h
    · by_cases q : y < m
      · rw [if_pos q] at h; exact .inr (by show minI _ r ∈ _; rw [if_pos q, h]; exact List.mem_cons_self)
      · rw [if_neg q] at h; exact .inl (by show minI _ r = _; rw [if_neg q, h])
    · exact .inr (List.mem_cons_of_mem _ h)
def minOf : List Int → Option Int
  | [] => none
  | x :: r => some (minI x r)
def minLD : List D → Out D
  | [.lst xs] => oOf (((intsOf xs).bind minOf).map .int)
  | _ => .stuck
theorem hd_minL {f : Env → Out (List D)} (hc : X.calm = true) (hm : X.mg "min" = none) (ha : HAb X W (e :: es) f) (hg : Gl X "min" := by rfl)
    (hs : starEach (e :: es) X.env = (false, eval e X.env) :: starEach es X.env := by rfl) (hpl : (backTo pos (starEach es X.env)).any (·.1) = false := by rfl) : HD X W (.Call (.Name "min" p1) (e :: es) [] pos) (dA minLD f) :=
  hd_callB (cr_min hc) (fun W σ ds vs Hs H Q e h p => by
    unfold minLD at p
    split at p
    · rename_i xs
      obtain ⟨v, rfl, h1⟩ := isAll1 h
      obtain ⟨d, e1, p⟩ := oOf_ok p
      simp only [Is] at h1
      obtain ⟨t, us, rfl, ht, hu⟩ := h1
      cases q : intsOf xs with
      | none => rw [q] at e1; cases e1
      | some ns =>
        rw [q] at e1
        cases ns with
        | nil => cases e1
        | cons n ns =>
          have e2 : D.int (minI n ns) = d := by simpa [minOf] using e1
          subst e2
          refine ⟨t, n :: ns, rfl, by rw [← ints_is hu q]; exact SqL.of ht, by simp, fun m hm hle => ?_⟩
          have h2 := minI_le ns n
          have h3 : minI n ns ∈ n :: ns := by
            rcases minI_mem ns n with z | z
            · rw [z]; exact List.mem_cons_self
            · exact List.mem_cons_of_mem _ z
          have h4 := hle _ h3
          have h5 : minI n ns ≤ m := by
            rcases List.mem_cons.mp hm with z | z
            · rw [z]; exact h2.1
            · exact h2.2 m z
          have e3 : m = minI n ns := by omega
          rw [e3]; exact p.now e isI
    · exact p.elim) hg hm (by decide +kernel) ha (by decide) (by decide) hs hpl
/-! ### insert, and the first item put last -/
def kIns (xs : List D) (ds : List D) : Out (List D) := match ds with
  | [.int i, y] => guard' (xs.length < cap ∧ 0 ≤ i ∧ i ≤ 1000000000) (.ok (xs.take i.toNat ++ [y] ++ xs.drop i.toNat))
  | _ => .stuck
def rInsL : V → List V → Hp → VK → Prop := fun x vs H Q => ∃ (l : Addr) (xs : List V) (i : Int) (y : V), x = .ref l ∧ vs = [.int i, y] ∧ H l = some (.lst xs) ∧ xs.length < sizeLine ∧ 0 ≤ i ∧ i < 2 ^ 63 ∧ Q .non (upd H l (.lst (xs.take i.toNat ++ [y] ++ xs.drop i.toNat)))
theorem hs_ins (i : Nat) {f : Env → Out (List D)} {apos : Pos} (hpe : PE X (.Call (.Attribute (.Name x p1) "insert" apos) es [] p2) (tBM X.K "list" rInsL (tVar i) (tG (RA X.K) X.K X.mg W f))) (hs : swapsWith (.Call (.Attribute (.Name x p1) "insert" apos) es [] p2) none pos.line X.env = pure false := by rfl) :
    HS1 X W (.Expr (.Call (.Attribute (.Name x p1) "insert" apos) es [] p2) pos) [i] (sMut i f kIns) :=
  ⟨PS.imp (ps_expr hpe hs) fun D σ H h => mut_read (R := RA X.K) (r := fun x v H Q => rInsL x v H Q) rfl (fun Hs H p vs xs ys d v H0 Q e h1 h2 h3 h4 h5 q => by
    have h4 : IsAll _ _ _ _ := h4
    unfold kIns at h5
    split at h5
    · rename_i k y
      obtain ⟨⟨ok, k0, k1⟩, h5⟩ := guard_eq h5
      cases h5
      obtain ⟨v1, v2, rfl, i1, i2⟩ := isAll2 h4
      simp only [Is] at i1
      subst i1
      exact ⟨p, vs, _, v2, rfl, rfl, h1, by rw [h3.len]; exact cap_lt (by omega), k0, by omega, q _ (((h3.take _).app (isAll_cons i2 isAll_nil)).app (h3.drop _))⟩
    · cases h5) (fun xs d c p z => by
    unfold kIns at z
    split at z
    · exact guard_exc z
    · cases z) h, fix_mut⟩
def sRot (i : Nat) : Env → Out Res := fun ρ => match ρ[i]? with
  | some (some (.l (x :: r))) => guard' (r.length < cap) (.ok (.next (ρ.set i (some (.l (r ++ [x]))))))
  | _ => .stuck
theorem hs_rot (i : Nat) {j : Nat} {ap1 ap2 q1 q2 q3 : Pos} (hpe : PE X (.Call (.Attribute (.Name x p1) "append" ap1) [.Call (.Attribute (.Name x q1) "pop" ap2) [.Constant (.int 0) j q2] [] q3] [] p2) (tBM X.K "list" rAppend (tVar i) (tCons (tBM X.K "list" rPopAt (tVar i) (tCons (tC (.int 0)) tNil)) tNil)))
    (hs : swapsWith (.Call (.Attribute (.Name x p1) "append" ap1) [.Call (.Attribute (.Name x q1) "pop" ap2) [.Constant (.int 0) j q2] [] q3] [] p2) none pos.line X.env = pure false := by rfl) :
    HS1 X W (.Expr (.Call (.Attribute (.Name x p1) "append" ap1) [.Call (.Attribute (.Name x q1) "pop" ap2) [.Constant (.int 0) j q2] [] q3] [] p2) pos) [i] (sRot i) :=
  ⟨PS.imp (ps_expr hpe hs) fun D σ H ⟨F, Gs, Hs, ρ, r, p⟩ => by
    unfold sRot at p
    split at p
    · rename_i d rs e
      obtain ⟨ok, p⟩ := guard_okS p
      obtain ⟨q, vs, e1, h1, h2, h3, k⟩ := r.put (xs' := rs) e
      simp only [IsAll] at h3
      obtain ⟨v, vr, rfl, hv, hr⟩ := h3
      have r1 := k vr hr
      obtain ⟨q', vs', e1', h1', h2', h3', k'⟩ := r1.put (i := i) (xs := rs) (xs' := rs ++ [d]) (List.getElem?_set_self (List.getElem?_eq_some_iff.mp e).1)
      rw [e1] at e1'
      cases e1'
      rw [upd_same] at h1'
      cases h1'
      have r2 := k' (vr ++ [v]) (hr.app (isAll_cons hv isAll_nil))
      rw [List.set_set] at r2
      refine ⟨.ref q, e1, .inl ⟨rfl, _, SqL.of h1⟩, .ref q, e1, .inl ⟨rfl, _, SqL.of h1⟩, q, v :: vr, 0, 0, v, rfl, rfl, h1, by decide, by decide, by simp [seqIndex?], rfl, ?_⟩
      refine ⟨q, vr, v, rfl, rfl, upd_same, by rw [hr.len]; exact cap_lt (by omega), ?_⟩
      exact p σ Hs _ r2 (Ex.refl _) fun _ _ => rfl
    · exact p.elim, fun ρ ρ' e k hk => by
    unfold sRot at e
    split at e
    · obtain ⟨_, e⟩ := guard_eq e
      cases e; exact congrArg mq (set_out hk)
    · cases e⟩
end
end G

set_option Elab.async false
set_option linter.all false
set_option maxRecDepth 100000
set_option maxHeartbeats 4000000
namespace G
open PySem PySem.Spec PyProof.Rows L2
open Evl (Ex ex_l ex_t ex_rd)
/-! ### objects that stay: fields, methods -/
section
variable {X : Cx} {W : WX} {e a b c : Expr} {es : List Expr} {pos p1 apos : Pos} {x : Str} {k n : Nat}
def tMethE (C : Addr) (m : Str) (sp : Sp) (E : L2.St → XK) (ta : TE) (t : TA) : TE := fun σ H Q => ta σ H fun x H1 => ∃ a dx fs, x = .ref a ∧ H1 a = some (.ins C dx fs) ∧ fs.lookup m = none ∧ t σ H1 fun vs H2 => sp (x :: vs) H2 Q (E σ)
theorem pe_methE {CX : CXT} {C f : Addr} {fd : FuncData} {ps : List Str} {sp : Sp} {E : L2.St → XK} {m : Str} {o : Expr} {ta : TE} {t : TA} {pl : Sem Bool} (he : PE X o ta) (c : Cls X.K C) (hm : Meth X.K C m f) (F : FnOk X.prog X.w X.K X.mg X.base CX k f fd ps sp) (hr : Room k X.A) (hb : Binds X.K fd ps []) (hx : ∀ σ, PassesAt CX X σ (E σ)) (ha : PA X (e :: es) t)
    (hst : starEach (e :: es) X.env = (false, eval e X.env) :: starEach es X.env := by rfl) (hpl : (backTo pos (starEach es X.env)).any (·.1) = false := by rfl)
    (ht : eval (.Call (.Attribute o m apos) (e :: es) [] pos) X.env = (do
      let ov ← eval o X.env
      standAt apos.atName
      let (f, first) ← holding [ov] (getMethod ov m pl)
      callWith pos f first (backTo pos (starEach (e :: es) X.env)) (backToKw pos (keywordEach [] X.env))) := by rfl) : PE X (.Call (.Attribute o m apos) (e :: es) [] pos) (tMethE C m sp E ta t) := by
  refine ⟨fun pins s σ H Q I h => PySem.W.methodCall_KW (pl := pl) (thn (he.run pins s σ H _ I h) fun u s1 ⟨y, H1, I1, ry, a, dx, fs, ey, ea, l, q⟩ => ?_) ht⟩
  subst ey
  obtain rfl : u = Value.ref a := ry
  refine getmeth_ok I1 ea c hm l (PySem.W.callWith_K (first := [.ref a]) (h₀ := X.base) I.ok.mod.kin hm.kp (thn (ha.run pos pins s1 σ H1 _ I1 q) fun us s2 ⟨vs, H2, I2, r, q2⟩ => ⟨I2.kIn, ?_⟩) hst hpl)
  exact run_fnS (us := .ref a :: us) (vs := .ref a :: vs) F hr hb (hx σ) I2 (.cons rfl r) q2
theorem pe_methE0 {CX : CXT} {C f : Addr} {fd : FuncData} {ps : List Str} {sp : Sp} {E : L2.St → XK} {m : Str} {o : Expr} {ta : TE} {pl : Sem Bool} (he : PE X o ta) (c : Cls X.K C) (hm : Meth X.K C m f) (F : FnOk X.prog X.w X.K X.mg X.base CX k f fd ps sp) (hr : Room k X.A) (hb : Binds X.K fd ps []) (hx : ∀ σ, PassesAt CX X σ (E σ))
    (ht : eval (.Call (.Attribute o m apos) [] [] pos) X.env = (do
      let ov ← eval o X.env
      standAt apos.atName
      let (f, first) ← holding [ov] (getMethod ov m pl)
      callWith pos f first (backTo pos (starEach [] X.env)) (backToKw pos (keywordEach [] X.env))) := by rfl) : PE X (.Call (.Attribute o m apos) [] [] pos) (tMethE C m sp E ta tNil) := by
  refine ⟨fun pins s σ H Q I h => PySem.W.methodCall_KW (pl := pl) (thn (he.run pins s σ H _ I h) fun u s1 ⟨y, H1, I1, ry, a, dx, fs, ey, ea, l, q⟩ => ?_) ht⟩
  subst ey
  obtain rfl : u = Value.ref a := ry
  exact getmeth_ok I1 ea c hm l (PySem.W.callWith_K0 (first := [.ref a]) I1.kIn hm.kp (run_fnS (us := [.ref a]) (vs := [.ref a]) F hr hb (hx σ) I1 (.cons rfl .nil) q))
theorem Flds.get {K : PySem.W.Frag} {H : Hp} {f : Str} : ∀ {fs : List (Str × D)} {vs : List (Str × V)}, Flds K H fs vs → ∀ {d : D}, fs.lookup f = some d → ∃ v, vs.lookup f = some v ∧ Is K H d v
  | [], _, _, _, e => by cases e
  | (g, d) :: fs, _, ⟨v, r, e1, h1, h2⟩, d', e => by
    subst e1
    rw [List.lookup_cons] at e ⊢
    cases q : (f == g) with
    | true => rw [q] at e; cases e; exact ⟨v, rfl, h1⟩
    | false => rw [q] at e; exact Flds.get h2 e
theorem Flds.no {K : PySem.W.Frag} {H : Hp} {f : Str} : ∀ {fs : List (Str × D)} {vs : List (Str × V)}, Flds K H fs vs → fs.lookup f = none → vs.lookup f = none
  | [], _, h, _ => by rw [show _ = [] from h]; rfl
  | (g, d) :: fs, _, ⟨v, r, e1, h1, h2⟩, e => by
    subst e1
    rw [List.lookup_cons] at e ⊢
    cases q : (f == g) with
    | true => rw [q] at e; cases e
    | false => rw [q] at e; exact Flds.no h2 e
/-- what is known of a class of the text -/
structure CF (K : PySem.W.Frag) (mg : Str → Option Value) (c : Str) (C : Addr) : Prop where
  g : mg c = some (.ref C)
  cl : Cls K C
def kFld (c f : Str) : Option (Option S) → Out D
  | some (some (.o c' fs)) => guard' (c' = c) (oOf (fs.lookup f))
  | _ => .stuck
def dFld (i : Nat) (c f : Str) : Env → Out D := fun ρ => kFld c f ρ[i]?
theorem hd_fld (i : Nat) {cn f : Str} {C : Addr} (T : CF X.K X.mg cn C) (na : NoAttr X.K C f) (hN : X.N[i]? = some x := by rfl) (hv : Vis X.env.scope x := by first | exact Or.inl rfl | exact Or.inr (Or.inl rfl) | exact Or.inr (Or.inr rfl)) (hd : (x == ("__debug__" : Str)) = false := by decide)
    (hcd : (x == ("__classdict__" : Str)) = false := by decide) (hb : attributeBase (.Name x p1) f X.env (eval (.Name x p1) X.env) = eval (.Name x p1) X.env := by rfl) : HD X W (.Attribute (.Name x p1) f pos) (dFld i cn f) :=
  ⟨PE.imp (pe_fld (pe_var hN hv hd hcd) hb) fun σ H Q ⟨F, Gs, Hs, ρ, r, p⟩ => by
    unfold dFld kFld at p
    split at p
    · rename_i c' fs e
      obtain ⟨hc, p2⟩ := guard_ok p
      clear p
      subst hc
      obtain ⟨d, hl, p⟩ := oOf_ok p2
      obtain ⟨fp, sl⟩ := r.sl
      obtain ⟨v, e1, _, a, C', dx, vs, rfl, hC, hHs, hF⟩ := sl.own i _ e
      rw [T.g] at hC
      cases hC
      obtain ⟨u, hu, hi⟩ := hF.get hl
      exact ⟨.ref a, e1, a, C, dx, vs, u, rfl, r.sh _ _ hHs, T.cl, na, hu, p.now r.sh hi⟩
    · exact p.elim⟩
/-- a method that may be called; n counts the object too -/
def MCallee (P : Program) (w : World) (K : PySem.W.Frag) (mg : Str → Option Value) (base : Heap) (c m : Str) (k n : Nat) (mm : List S → Out S) : Prop :=
  ∃ C f fd ps, CF K mg c C ∧ Meth K C m f ∧ FnOk P w K mg base (L2.CX P w) k f fd ps (spD K mg n mm) ∧ Binds K fd ps [] ∧ ps.length = n
def kMethB (n : Nat) (mm : List S → Out S) (s : S) (ss : List S) : Out S := guard' (ss.length + 1 = n) (mm (s :: ss))
def kMeth (c m : Str) (n : Nat) (mm : List S → Out S) (g : Env → Out (List S)) (ρ : Env) : Option (Option S) → Out S
  | some (some (.o c' fs)) => guard' (c' = c ∧ fs.lookup m = none) ((g ρ).bind (kMethB n mm (.o c' fs)))
  | _ => .stuck
def dMeth (i : Nat) (c m : Str) (n : Nat) (mm : List S → Out S) (g : Env → Out (List S)) : Env → Out S := fun ρ => kMeth c m n mm g ρ ρ[i]?
theorem meth_read {i : Nat} {cn m : Str} {mm : List S → Out S} {g : Env → Out (List S)} {C : Addr} {σ : L2.St} {H : Hp} {Q : VK} (T : CF X.K X.mg cn C) (h : tG (RE X.K X.mg) X.K X.mg W (dMeth i cn m n mm g) σ H Q) :
    tMethE C m (spD X.K X.mg n mm) (WE W) (tVar i) (tG (RAS X.K X.mg) X.K X.mg W g) σ H Q := by
  obtain ⟨F, Gs, Hs, ρ, r, p⟩ := h
  unfold dMeth kMeth at p
  split at p
  · rename_i c' fs e
    obtain ⟨⟨hc, hl⟩, p2⟩ := guard_ok p
    clear p
    subst hc
    obtain ⟨fp, sl⟩ := id r.sl
    obtain ⟨v, e1, o⟩ := sl.own i _ e
    obtain ⟨_, a, C', dx, vs, rfl, hC, hHs, hF⟩ := id o
    rw [T.g] at hC
    cases hC
    refine ⟨.ref a, e1, a, dx, vs, rfl, r.sh _ _ hHs, hF.no hl, F, Gs, Hs, ρ, r, (Post.seq anti_E p2).imp fun ws H1 ⟨Hs1, ss, g1, h1, q1⟩ => ?_⟩
    obtain ⟨hn, q1⟩ := guard_ok q1
    refine ⟨Hs1, .o c' fs :: ss, g1.sh, ⟨.ref a, ws, rfl, ⟨rfl, a, C, dx, vs, rfl, T.g, g1.s _ _ hHs, hF.mono g1.s⟩, h1⟩, hn, ?_⟩
    cases z : mm (.o c' fs :: ss) with
    | ok s => rw [z] at q1; exact q1
    | exc c p' => rw [z] at q1; exact q1
    | stuck => rw [z] at q1; exact q1
  · exact p.elim
theorem he_meth (i : Nat) {cn m : Str} {mm : List S → Out S} {g : Env → Out (List S)} {pl : Sem Bool} (c : MCallee X.prog X.w X.K X.mg X.base cn m k n mm) (hr : Room k X.A) (tk : Takes X W) (ha : HAS X W (e :: es) g)
    (hN : X.N[i]? = some x := by rfl) (hv : Vis X.env.scope x := by first | exact Or.inl rfl | exact Or.inr (Or.inl rfl) | exact Or.inr (Or.inr rfl)) (hd : (x == ("__debug__" : Str)) = false := by decide) (hcd : (x == ("__classdict__" : Str)) = false := by decide)
    (hst : starEach (e :: es) X.env = (false, eval e X.env) :: starEach es X.env := by rfl) (hpl : (backTo pos (starEach es X.env)).any (·.1) = false := by rfl)
    (ht : eval (.Call (.Attribute (.Name x p1) m apos) (e :: es) [] pos) X.env = (do
      let ov ← eval (.Name x p1) X.env
      standAt apos.atName
      let (f, first) ← holding [ov] (getMethod ov m pl)
      callWith pos f first (backTo pos (starEach (e :: es) X.env)) (backToKw pos (keywordEach [] X.env))) := by rfl) : HE X W (.Call (.Attribute (.Name x p1) m apos) (e :: es) [] pos) (dMeth i cn m n mm g) := by
  obtain ⟨C, f, fd, ps, T, hm, F, hb, hn⟩ := c
  exact ⟨PE.imp (pe_methE (pe_var hN hv hd hcd) T.cl hm F hr hb (fun σ => passAt tk σ) ha.pa hst hpl ht) fun σ H Q h => meth_read T h⟩
theorem he_meth0 (i : Nat) {cn m : Str} {mm : List S → Out S} {pl : Sem Bool} (c : MCallee X.prog X.w X.K X.mg X.base cn m k n mm) (hr : Room k X.A) (tk : Takes X W)
    (hN : X.N[i]? = some x := by rfl) (hv : Vis X.env.scope x := by first | exact Or.inl rfl | exact Or.inr (Or.inl rfl) | exact Or.inr (Or.inr rfl)) (hd : (x == ("__debug__" : Str)) = false := by decide) (hcd : (x == ("__classdict__" : Str)) = false := by decide)
    (ht : eval (.Call (.Attribute (.Name x p1) m apos) [] [] pos) X.env = (do
      let ov ← eval (.Name x p1) X.env
      standAt apos.atName
      let (f, first) ← holding [ov] (getMethod ov m pl)
      callWith pos f first (backTo pos (starEach [] X.env)) (backToKw pos (keywordEach [] X.env))) := by rfl) : HE X W (.Call (.Attribute (.Name x p1) m apos) [] [] pos) (dMeth i cn m n mm sNil) := by
  obtain ⟨C, f, fd, ps, T, hm, F, hb, hn⟩ := c
  refine ⟨PE.imp (pe_methE0 (pe_var hN hv hd hcd) T.cl hm F hr hb (fun σ => passAt tk σ) ht) fun σ H Q h => ?_⟩
  obtain ⟨v, e1, a, dx, fs, ev, ea, el, q⟩ := meth_read T h
  refine ⟨v, e1, a, dx, fs, ev, ea, el, ?_⟩
  obtain ⟨F', Gs, Hs, ρ, r, p⟩ := q
  exact Post.now (R := RAS X.K X.mg) p r.sh rfl
end
end G

set_option Elab.async false
set_option linter.all false
set_option maxRecDepth 100000
set_option maxHeartbeats 4000000
namespace G
open PySem PySem.Spec PyProof.Rows L2
open Evl (Ex ex_l ex_t ex_rd)
/-! ### an object is made -/
/-- all but the object at x stands -/
structure GrowX (x : Addr) (Hs H Hs' H' : Hp) : Prop where
  h : ∀ a o, a ≠ x → H a = some o → H' a = some o
  s : Ex Hs Hs'
  sh : Ex Hs' H'
  ap : ∀ a, Hs' a ≠ none → H a ≠ none → Hs a ≠ none
/-- the promise of an __init__: from the values ss the fields mi ss -/
def spI (K : PySem.W.Frag) (mg : Str → Option Value) (C : Addr) (n : Nat) (mi : List S → Out (List (Str × D))) : Sp := fun vs H Q _ => ∃ x dx ws Hs ss fs, vs = V.ref x :: ws ∧ H x = some (.ins C dx []) ∧ Hs x = none ∧ Ex Hs H ∧ Args K mg Hs ss ws ∧ ss.length = n ∧ mi ss = .ok fs ∧
  ∀ vs' Hs' H', GrowX x Hs H Hs' H' → Hs' x = none → H' x = some (.ins C dx vs') → Flds K Hs' fs vs' → Q .non H'
def ICallee (P : Program) (w : World) (K : PySem.W.Frag) (mg : Str → Option Value) (base : Heap) (c : Str) (k n : Nat) (mi : List S → Out (List (Str × D))) : Prop :=
  ∃ C f fd ps, CF K mg c C ∧ Mk K C f ∧ FnOk P w K mg base (L2.CX P w) k f fd ps (spI K mg C n mi) ∧ Binds K fd ps [] ∧ ps.length = n + 1
def kMkO (c : Str) (fs : List (Str × D)) : Out S := .ok (.o c fs)
def kMake (c : Str) (n : Nat) (mi : List S → Out (List (Str × D))) (ss : List S) : Out S := guard' (ss.length = n) ((noX (mi ss)).bind (kMkO c))
section
variable {X : Cx} {W : WX} {e a b c : Expr} {es : List Expr} {pos p1 apos : Pos} {x : Str} {k n : Nat}
theorem pass_no {P : Program} {w : World} (hP : P = X.prog) (hw : w = X.w) : Passes (L2.CX P w) X (fun _ _ _ => False) := fun pins σ H s e s' I h => by
  obtain ⟨_, _, _, _, _, _, _, _, _, _, _, _, h⟩ := h
  exact h.elim
theorem noX_is {α : Type} {r : Out α} : (∃ a, r = .ok a ∧ noX r = .ok a) ∨ noX r = .stuck := by
  cases r with
  | ok a => exact .inl ⟨a, rfl, rfl⟩
  | exc _ _ => exact .inr rfl
  | stuck => exact .inr rfl
theorem he_make {cn : Str} {mi : List S → Out (List (Str × D))} {g : Env → Out (List S)} (c : ICallee X.prog X.w X.K X.mg X.base cn k n mi) (hr : Room (k + 1) X.A) (ha : HAS X W (e :: es) g) (hg : Gl X cn := by rfl) (hdb : (cn == ("__debug__" : Str)) = false := by decide)
    (hs : starEach (e :: es) X.env = (false, eval e X.env) :: starEach es X.env := by rfl) (hpl : (backTo pos (starEach es X.env)).any (·.1) = false := by rfl) : HE X W (.Call (.Name cn p1) (e :: es) [] pos) (dA (kMake cn n mi) g) := by
  obtain ⟨C, f, fd, ps, T, M, F, hb, hn⟩ := c
  refine ⟨PE.imp (pe_make (dvs := []) M F hr hg T.g hb .nil (pass_no rfl rfl) ha.pa hdb hs hpl) fun σ H Q ⟨F', Gs, Hs, ρ, r, p⟩ => ⟨F', Gs, Hs, ρ, r, (Post.seq anti_E p).imp fun vs H1 ⟨Hs1, ss, g1, h1, p1⟩ => ?_⟩⟩
  intro y dx hy hdx hne
  obtain ⟨hl, p1⟩ := guard_ok p1
  rcases noX_is (r := mi ss) with ⟨fs, e1, e2⟩ | e2
  · rw [e2] at p1
    have hsy : Hs1 y = none := none_of_ex g1.sh hy
    have hsd : Hs1 dx = none := none_of_ex g1.sh hdx
    have up : ∀ a o, H1 a = some o → (upd (upd H1 dx (.own y)) y (.ins C dx [])) a = some o := fun a o ea => by
      rw [upd_ne (by rintro rfl; rw [hy] at ea; cases ea), upd_ne (by rintro rfl; rw [hdx] at ea; cases ea)]; exact ea
    refine ⟨y, dx, vs, Hs1, ss, fs, by rw [List.append_nil], upd_same, hsy, fun a o ea => up a o (g1.sh _ _ ea), h1, hl, e1, fun vs' Hs' H' G' n' i' f' => ⟨rfl, ?_⟩⟩
    have e3 : Ex Hs' (upd Hs' y (.ins C dx vs')) := Ex.new n'
    refine p1 (.ref y) (upd Hs' y (.ins C dx vs')) H' ⟨fun a o ea => G'.h a o (by rintro rfl; rw [hy] at ea; cases ea) (up a o ea), G'.s.trans e3, fun a o ea => ?_, fun a ha1 ha2 => ?_⟩ ⟨[], ⟨rfl, y, C, dx, vs', rfl, T.g, upd_same, f'.mono e3⟩, (fun _ h => nomatch h), List.nodup_nil⟩
    · by_cases q : a = y
      · subst q; rw [upd_same] at ea; cases ea; exact i'
      · rw [upd_ne q] at ea; exact G'.sh a o ea
    · have q : a ≠ y := by rintro rfl; exact ha2 hy
      rw [upd_ne q] at ha1
      refine G'.ap a ha1 ?_
      cases z : H1 a with
      | none => exact absurd z ha2
      | some o => rw [up a o z]; simp
  · rw [e2] at p1; exact p1.elim
end
/-! ### an __init__ that writes two fields -/
def AllD (ρ : Env) : Prop := ∀ (i : Nat) (s : S), ρ[i]? = some (some s) → ∃ d, s = .d d
theorem Rep.restart {K : PySem.W.Frag} {mg : Str → Option Value} {F Gs Hs H H2 : Hp} {σ : L2.St} {ρ : Env} (r : Rep K mg F Gs Hs H σ ρ) (ad : AllD ρ) (e : Ex Hs H2) : Rep K mg H2 Hs Hs H2 σ ρ := by
  obtain ⟨fp, sl⟩ := r.sl
  refine ⟨r.len, ⟨Ex.refl _, Ex.refl _, e, fun _ h _ => h⟩, fun _ => [], fun i s q => ?_, (fun _ _ h => nomatch h), (fun _ _ _ h => nomatch h), fun _ => List.nodup_nil⟩
  obtain ⟨d, rfl⟩ := ad i s q
  obtain ⟨v, e1, _, h⟩ := sl.own i _ q
  exact ⟨v, e1, rfl, h⟩
section
variable {X : Cx} {W : WX} {e e1 e2 : Expr} {es : List Expr} {pos p1 p2 q1 q2 r1 r2 : Pos} {x : Str} {k n : Nat} {f1 f2 : Str}
/-- self.f1 = e1; self.f2 = e2 -/
def flds2 (f1 f2 : Str) (g1 g2 : Env → Out D) : Env → Out (List (Str × D)) := fun ρ => (g1 ρ).bind fun d => (g2 ρ).bind fun d' => .ok [(f1, d), (f2, d')]
theorem putF_two {f1 f2 : Str} (hne : ¬ f1 = f2) (v u : V) : putF f2 u (putF f1 v []) = [(f1, v), (f2, u)] := by
  show (if f1 = f2 then _ else (f1, v) :: putF f2 u []) = _
  rw [if_neg hne]; rfl
theorem pss_flds2 {g1 g2 : Env → Out D} {C : Addr} (h1 : HD X W0 e1 g1) (h2 : HD X W0 e2 g2) (cl : Cls X.K C) (n1 : NoAttr X.K C f1) (n2 : NoAttr X.K C f2) (hne : ¬ f1 = f2) (hN : X.N[0]? = some x := by rfl)
    (hv : Vis X.env.scope x := by first | exact Or.inl rfl | exact Or.inr (Or.inl rfl) | exact Or.inr (Or.inr rfl)) (hd : (x == ("__debug__" : Str)) = false := by decide) (hcd : (x == ("__classdict__" : Str)) = false := by decide)
    (hs1 : swapsWith e1 (some (.Attribute (.Name x p1) f1 q1)) r1.line X.env = pure false := by rfl) (hs2 : swapsWith e2 (some (.Attribute (.Name x p2) f2 q2)) r2.line X.env = pure false := by rfl) :
    PSs X [.Assign [.Attribute (.Name x p1) f1 q1] e1 r1, .Assign [.Attribute (.Name x p2) f2 q2] e2 r2] (fun D σ H => ∃ y dx Hs ρ fs, σ[0]? = some (some (V.ref y)) ∧ H y = some (.ins C dx []) ∧ Hs y = none ∧ Rep X.K X.mg H Hs Hs H σ ρ ∧ AllD ρ ∧ flds2 f1 f2 g1 g2 ρ = .ok fs ∧
      ∀ vs' Hs' H', GrowX y Hs H Hs' H' → Hs' y = none → H' y = some (.ins C dx vs') → Flds X.K Hs' fs vs' → D.nx σ H') := by
  refine PSs.imp (pss_cons (ps_fld (pe_var hN hv hd hcd) h1.pe hs1) (pss_one (ps_fld (pe_var hN hv hd hcd) h2.pe hs2))) fun D σ H ⟨y, dx, Hs, ρ, fs, e0, hy, hsy, r, ad, hf, q⟩ => ?_
  unfold flds2 at hf
  obtain ⟨d, z1, hf⟩ := bind_ok hf
  obtain ⟨d', z2, hf⟩ := bind_ok hf
  cases hf
  refine ⟨H, Hs, Hs, ρ, r, ?_⟩
  rw [z1]
  intro v Hs1 H1 gr hv1
  have hv1 : Is _ _ _ _ := hv1
  have hy1 : H1 y = some (.ins C dx []) := gr.h _ _ hy
  have hs1y : Hs1 y = none := by
    cases zz : Hs1 y with
    | none => rfl
    | some o => exact absurd hsy (gr.ap y (by rw [zz]; simp) (by rw [hy]; simp))
  refine ⟨.ref y, e0, y, C, dx, [], rfl, hy1, cl, n1, by decide, ?_⟩
  have ex2 : Ex Hs1 (upd H1 y (.ins C dx (putF f1 v []))) := fun a o ea => by
    rw [upd_ne (by rintro rfl; rw [hs1y] at ea; cases ea)]; exact gr.sh a o ea
  have r2 := (r.grow gr).restart ad ex2
  refine ⟨_, Hs1, Hs1, ρ, r2, ?_⟩
  rw [z2]
  intro u Hs2 H2 gr2 hu
  have hu : Is _ _ _ _ := hu
  have hy2 : H2 y = some (.ins C dx (putF f1 v [])) := gr2.h _ _ upd_same
  have hs2y : Hs2 y = none := by
    cases zz : Hs2 y with
    | none => rfl
    | some o => exact absurd hs1y (gr2.ap y (by rw [zz]; simp) (by rw [upd_same]; simp))
  refine ⟨.ref y, e0, y, C, dx, _, rfl, hy2, cl, n2, (show (1 : Nat) < 1000 by decide), ?_⟩
  refine q (putF f2 u (putF f1 v [])) Hs2 _ ⟨fun a o na ea => ?_, gr.s.trans gr2.s, fun a o ea => ?_, fun a b1 b2 => ?_⟩ hs2y upd_same ?_
  · rw [upd_ne na]
    exact gr2.h _ _ (by rw [upd_ne na]; exact gr.h _ _ ea)
  · rw [upd_ne (by rintro rfl; rw [hs2y] at ea; cases ea)]; exact gr2.sh a o ea
  · refine gr.ap a (gr2.ap a b1 ?_) b2
    by_cases za : a = y
    · rw [za, upd_same]; simp
    · rw [upd_ne za]; exact ex_some gr.h b2
  · rw [putF_two hne]
    exact ⟨v, _, rfl, Is.mono gr2.s _ hv1, u, _, rfl, hu, rfl⟩
end
section
variable {P : Program} {w : World} {K : PySem.W.Frag} {mg : Str → Option Value} {base : Heap}
/-- the slots of an __init__: the object is not known -/
def startI (n : Nat) (ss : List S) : Env := none :: (ss.map some ++ List.replicate (n - (ss.length + 1)) none)
theorem rep_startI {Hs H : Hp} {N : List Str} {ss : List S} {vs : List V} {y : V} (e : Ex Hs H) (ha : Args K mg Hs ss vs) (hn : 1 ≤ N.length) : Rep K mg H Hs Hs H (start N (y :: vs)) (startI N.length ss) := by
  have r := rep_start (N := N) (ss := .d .non :: ss) (vs := .non :: vs) (K := K) (mg := mg) e ⟨.non, vs, rfl, ⟨rfl, isN⟩, ha⟩
  have r2 := r.junk (i := 0) (u := some y)
  have e1 : (start N (V.non :: vs)).set 0 (some y) = start N (y :: vs) := by unfold L2.start; rfl
  have e2 : (startE N.length (.d .non :: ss)).set 0 none = startI N.length ss := by unfold startE startI; rfl
  rw [e1, e2] at r2
  exact r2
/-- __init__ with an unpacking ahead -/
theorem okI {x qual : Str} {st : Stmt} {f : Addr} {fd : FuncData} {N ps : List Str} {k n : Nat} {C : Addr} {mi : List S → Out (List (Str × D))} (F : Fun K x qual st f fd) (S' : FnScope N ps (defScope st)) (hps : ps.length = n + 1) (hN : 1 ≤ N.length)
    (hb : ∀ (cdv : Value) (A : Around) (outer : List PySem.Env) (s : Shared) (H : Hp) (E : XK), Room k (A.deeper (envOfC qual (defScope st) s.heap.objs.size f cdv)) →
      PSs (cxOf (L2.CX P w) P w K mg base N qual (defScope st) f cdv A outer s H E) (defBody st) (fun D σ H => ∃ y dx Hs ss fs, σ[0]? = some (some (V.ref y)) ∧ H y = some (.ins C dx []) ∧ Hs y = none ∧ Rep K mg H Hs Hs H σ (startI N.length ss) ∧ ss.length = n ∧ mi ss = .ok fs ∧
        ∀ σ' vs' Hs' H', GrowX y Hs H Hs' H' → Hs' y = none → H' y = some (.ins C dx vs') → Flds K Hs' fs vs' → D.nx σ' H')) :
    FnOk P w K mg base (L2.CX P w) (k + 1) f fd ps (spI K mg C n mi) := by
  refine F.okX S' (fun vs H Q E h => ?_) (fun cdv A outer s H vs Q E hr h => ?_)
  · obtain ⟨y, dx, ws, Hs, ss, fs, rfl, _, _, _, ha, hl, _⟩ := h
    rw [List.length_cons, ha.len, hl, hps]
  · obtain ⟨y, dx, ws, Hs, ss, fs, rfl, h1, h2, h3, ha, hl, hm, q⟩ := h
    exact ⟨_, hb cdv A outer s H E hr, y, dx, Hs, ss, fs, rfl, h1, h2, rep_startI h3 ha hN, hl, hm, fun σ' vs' Hs' H' a b c d => q vs' Hs' H' a b c d⟩
def allDb (ρ : Env) : Bool := ρ.all fun o => match o with
  | none => true
  | some (.d _) => true
  | some _ => false
theorem allDb_ok {ρ : Env} (h : allDb ρ = true) : AllD ρ := fun i s e => by
  have := List.all_eq_true.mp h _ (List.mem_of_getElem? e)
  cases s with
  | d d => exact ⟨d, rfl⟩
  | _ => cases this
/-- tg = e0; self.f1 = e1; self.f2 = e2 -/
def initU (n : Nat) (f : Env → Out D) (k : D → Env → Out Env) (fl : Env → Out (List (Str × D))) (ss : List S) : Out (List (Str × D)) := (f (startI n ss)).bind fun d => (k d (startI n ss)).bind fun ρ => guard' (allDb ρ = true) (fl ρ)
theorem set0_out {l : List (Option V)} {σ' : L2.St} {asg : List Nat} (h : ∀ i, i ∉ asg → σ'[i]? = l[i]?) (h0 : 0 ∉ asg) : σ'[0]? = l[0]? := h 0 h0
theorem okIU {x qual : Str} {st : Stmt} {f : Addr} {fd : FuncData} {N ps : List Str} {kk n : Nat} {C : Addr} {x0 f1 f2 : Str} {e0 e1 e2 tg : Expr} {pos p1 q1 r1 p2 q2 r2 : Pos} {g0 g1 g2 : Env → Out D} {g : TG} {asg : List Nat} {k : D → Env → Out Env} (F : Fun K x qual st f fd) (S' : FnScope N ps (defScope st)) (hps : ps.length = n + 1) (hN : 1 ≤ N.length)
    (hbody : defBody st = [.Assign [tg] e0 pos, .Assign [.Attribute (.Name x0 p1) f1 q1] e1 r1, .Assign [.Attribute (.Name x0 p2) f2 q2] e2 r2]) (cl : Cls K C) (n1 : NoAttr K C f1) (n2 : NoAttr K C f2) (hne : ¬ f1 = f2) (h0 : 0 ∉ asg)
    (hb : ∀ (cdv : Value) (A : Around) (outer : List PySem.Env) (s : Shared) (H : Hp) (E : XK), Room kk (A.deeper (envOfC qual (defScope st) s.heap.objs.size f cdv)) →
      HD (cxOf (L2.CX P w) P w K mg base N qual (defScope st) f cdv A outer s H E) W0 e0 g0 ∧ HG (cxOf (L2.CX P w) P w K mg base N qual (defScope st) f cdv A outer s H E) tg g asg k ∧ HD (cxOf (L2.CX P w) P w K mg base N qual (defScope st) f cdv A outer s H E) W0 e1 g1 ∧ HD (cxOf (L2.CX P w) P w K mg base N qual (defScope st) f cdv A outer s H E) W0 e2 g2 ∧ (cxOf (L2.CX P w) P w K mg base N qual (defScope st) f cdv A outer s H E).N[0]? = some x0 ∧ Vis (cxOf (L2.CX P w) P w K mg base N qual (defScope st) f cdv A outer s H E).env.scope x0 ∧ (x0 == ("__debug__" : Str)) = false ∧ (x0 == ("__classdict__" : Str)) = false ∧ swapsWith e1 (some (.Attribute (.Name x0 p1) f1 q1)) r1.line (cxOf (L2.CX P w) P w K mg base N qual (defScope st) f cdv A outer s H E).env = pure false ∧ swapsWith e2 (some (.Attribute (.Name x0 p2) f2 q2)) r2.line (cxOf (L2.CX P w) P w K mg base N qual (defScope st) f cdv A outer s H E).env = pure false ∧
        swapsWithSole [tg] e0 pos.line (cxOf (L2.CX P w) P w K mg base N qual (defScope st) f cdv A outer s H E).env = pure false ∧ swappedStores [tg] e0 (cxOf (L2.CX P w) P w K mg base N qual (defScope st) f cdv A outer s H E).env = pure none ∧ (assignEach [tg] (cxOf (L2.CX P w) P w K mg base N qual (defScope st) f cdv A outer s H E).env).map (·.2) = [assign tg (cxOf (L2.CX P w) P w K mg base N qual (defScope st) f cdv A outer s H E).env]) :
    FnOk P w K mg base (L2.CX P w) (kk + 1) f fd ps (spI K mg C n (initU N.length g0 k (flds2 f1 f2 g1 g2))) := by
  refine okI F S' hps hN fun cdv A outer s H E hr => ?_
  obtain ⟨d0, dg, d1, d2, a1, a2, a3, a4, a5, a6, a7, a8, a9⟩ := hb cdv A outer s H E hr
  rw [hbody]
  refine PSs.imp (pss_cons (ps_asg d0.pe dg.pg a7 a8 a9) (pss_flds2 (C := C) d1 d2 cl n1 n2 hne a1 a2 a3 a4 a5 a6)) fun D σ H ⟨y, dx, Hs, ss, fs, e, hy, hsy, r, hl, hm, q⟩ => ?_
  unfold initU at hm
  obtain ⟨d, z1, hm⟩ := bind_ok hm
  obtain ⟨ρ', z2, hm⟩ := bind_ok hm
  obtain ⟨z3, hm⟩ := guard_eq hm
  refine ⟨H, Hs, Hs, startI N.length ss, r, ?_⟩
  rw [z1]
  intro v Hs1 H1 gr hv
  have hv : Is _ _ _ _ := hv
  have hy1 : H1 y = some (.ins C dx []) := gr.h _ _ hy
  have hs1y : Hs1 y = none := by
    cases zz : Hs1 y with
    | none => rfl
    | some o => exact absurd hsy (gr.ap y (by rw [zz]; simp) (by rw [hy]; simp))
  refine dg.r.rd H Hs Hs1 H1 σ _ d v _ ρ' (r.grow gr) hv z2 fun σ' r' hk => ?_
  refine ⟨y, dx, Hs1, ρ', fs, by rw [hk 0 h0]; exact e, hy1, hs1y, r'.restart (allDb_ok z3) gr.sh, allDb_ok z3, hm, fun vs' Hs' H' G' b c d => q σ' vs' Hs' H' ⟨fun a o na ea => G'.h a o na (gr.h _ _ ea), gr.s.trans G'.s, G'.sh, fun a b1 b2 => gr.ap a (G'.ap a b1 (ex_some gr.h b2)) b2⟩ b c d⟩
end
end G

set_option Elab.async false
set_option linter.all false
set_option maxRecDepth 100000
set_option maxHeartbeats 4000000
namespace G
open PySem PySem.Spec PyProof.Rows L2
open Evl (Ex ex_l ex_t ex_rd)
section
variable {X : Cx} {W : WX} {e a b c : Expr} {es : List Expr} {pos p1 : Pos} {x : Str} {k n : Nat} {m : List S → Out S}
/-! ### bools added -/
theorem op_add_bb : OpR X (binaryOp .Add) (fun x y H Q => ∃ i k, x = .bl i ∧ y = .bl k ∧ Q (.int (b2i i + b2i k)) H) := by
  intro pins s σ H x y v u Q I rx ry h
  obtain ⟨i, k, rfl, rfl, q⟩ := h
  cases rx
  cases ry
  exact add_bool ⟨.int (b2i i + b2i k), H, I.tok _, ⟨_, rfl⟩, q⟩
def addbD : D → D → Out D
  | .bl a, .bl b => .ok (.int (b2i a + b2i b))
  | _, _ => .stuck
theorem opd_addb : OpD X (fun x y H Q => ∃ i k, x = .bl i ∧ y = .bl k ∧ Q (.int (b2i i + b2i k)) H) addbD := fun W σ a b x y Hs H Q e ha hb p => by
  cases a with
  | bl i =>
    cases b with
    | bl j => simp only [Is] at ha hb; exact ⟨i, j, ha, hb, p.now e isI⟩
    | _ => exact p.elim
  | _ => cases b <;> exact p.elim
theorem hd_addb {f g : Env → Out D} (ha : HD X W a f) (hb : HD X W b g) : HD X W (.BinOp a .Add b pos) (d2 addbD f g) := hd_bin op_add_bb opd_addb ha hb
/-! ### borrowed: a call, a list -/
theorem hb_call {g : Env → Out (List S)} (c : Callee X.prog X.w X.K X.mg X.base x k n m) (hr : Room k X.A) (tk : Takes X W)
    (ha : HASb X W (e :: es) g) (hg : Gl X x := by rfl) (hdb : (x == ("__debug__" : Str)) = false := by decide) (hs : starEach (e :: es) X.env = (false, eval e X.env) :: starEach es X.env := by rfl) (hpl : (backTo pos (starEach es X.env)).any (·.1) = false := by rfl) :
    HB X W (.Call (.Name x p1) (e :: es) [] pos) (dA (fun ss => guard' (ss.length = n) ((m ss).bind S.fz)) g) := by
  obtain ⟨f, fd, ps, F, hm, hk, hb, hn⟩ := c
  exact ⟨PE.imp (pe_callS F hr hg hm hk hb (fun σ => passAt tk σ) ha.pa hdb hs hpl) fun σ H Q ⟨F', Gs, Hs, ρ, r, p⟩ => ⟨F', Gs, Hs, ρ, r, (Post.seq anti_B p).imp fun vs H1 ⟨Hs1, ss, g1, h1, p1⟩ => by
    obtain ⟨hl, p1⟩ := guard_ok p1
    refine ⟨H1, ss, Ex.refl _, h1, hl, ?_⟩
    cases q : m ss with
    | ok s =>
      rw [q] at p1
      intro v Hs' H' g' hs'
      obtain ⟨fp, o, hf, nd⟩ := hs'
      cases z : s.fz with
      | ok d =>
        have p1 : Post (RB X.K) X.mg W σ Hs1 H1 (.ok d) Q := by rw [← z]; exact p1
        exact p1.later (Grow.whole g1.sh g'.h) (own_bor o z g'.sh fun p hp => (hf p hp).2)
      | exc c p' => cases s <;> simp [S.fz] at z
      | stuck =>
        have p1 : Post (RB X.K) X.mg W σ Hs1 H1 .stuck Q := by rw [← z]; exact p1
        exact p1.elim
    | exc c p' =>
      rw [q] at p1
      exact fun cls d Hs' H' g' h' => p1 cls d Hs1 H' (Grow.whole g1.sh g'.h) h'
    | stuck => rw [q] at p1; exact p1⟩⟩
def lstB (f : Env → Out (List D)) : Env → Out D := fun ρ => (f ρ).bind fun ds => guard' (ds.length ≤ cap) (.ok (.lst ds))
theorem hb_lst {f : Env → Out (List D)} (h : HAb X W es f) : HB X W (.List es pos) (lstB f) :=
  ⟨PE.imp (pe_lst h.pa) fun σ H Q ⟨F, Gs, Hs, ρ, r, p⟩ => ⟨F, Gs, Hs, ρ, r, (Post.seq anti_B p).imp fun vs H1 ⟨Hs1, ds, g1, h1, p1⟩ => by
    obtain ⟨ok, p1⟩ := guard_ok p1
    have h1 : IsAll _ _ _ _ := h1
    refine ⟨by rw [h1.len]; exact cap_le ok, fun q hq => p1.later (Grow.whole g1.sh (Ex.new hq)) ?_⟩
    show Is _ _ _ _
    simp only [Is]
    exact ⟨q, vs, rfl, upd_same, IsAll.mono (Ex.new hq) ds h1⟩⟩⟩
end
end G

set_option Elab.async false
set_option linter.all false
set_option maxRecDepth 100000
set_option maxHeartbeats 4000000
namespace G
open PySem PySem.Spec PyProof.Rows L2
open Evl (Ex ex_l ex_t ex_rd)
section
variable {X : Cx} {W : WX} {e a b c o : Expr} {es : List Expr} {pos p1 p2 pos2 apos : Pos} {x : Str} {k n : Nat} {m : List S → Out S} {tg : Expr}
/-! ### reversed(range(n)) -/
def revRL (n : Nat) : List D := (List.range n).map fun i => D.int ((n : Int) - 1 - (i : Nat))
theorem revRL_get {n i : Nat} {d : D} (h : (revRL n)[i]? = some d) : i < n ∧ d = .int ((n : Int) - 1 - (i : Nat)) := by
  unfold revRL at h
  rw [List.getElem?_map] at h
  by_cases hi : i < n
  · rw [List.getElem?_range hi] at h; cases h; exact ⟨hi, rfl⟩
  · rw [List.getElem?_eq_none (by rw [List.length_range]; omega)] at h; cases h
theorem itd_revR {K : PySem.W.Frag} {Hb Hs : Hp} {n : Nat} {lo : Int} (hlo : lo = (n : Int) - 1) : ItD K Hb Hs (revRL n) (Itc lo (-1) n) := fun i H _ => ⟨fun d hd => by
  obtain ⟨h1, rfl⟩ := revRL_get hd
  exact ⟨h1, fun x H' ⟨e1, e2⟩ => ⟨e1, by rw [e2, hlo, show (n : Int) - 1 + (i : Nat) * (-1) = (n : Int) - 1 - (i : Nat) by omega]; exact isI⟩⟩, fun hn => by
    have := List.getElem?_eq_none_iff.mp hn
    unfold revRL at this
    rw [List.length_map, List.length_range] at this
    exact this⟩
def revRD : D → Out (List D)
  | .int j => guard' (-1000000000 ≤ j ∧ j ≤ 1000000000) (.ok (revRL j.toNat))
  | _ => .stuck
theorem hi_revR {f : Env → Out D} (hm : X.mg "reversed" = none) (hm2 : X.mg "range" = none) (h : HD X W e f) (hg : Gl X "reversed" := by rfl) (hg2 : Gl X "range" := by rfl) (hs : starEach [e] X.env = (false, eval e X.env) :: starEach [] X.env := by rfl)
    (hs2 : starEach [.Call (.Name "range" p2) [e] [] pos2] X.env = (false, eval (.Call (.Name "range" p2) [e] [] pos2) X.env) :: starEach [] X.env := by rfl) : HI X W tg (.Call (.Name "reversed" p1) [.Call (.Name "range" p2) [e] [] pos2] [] pos) (d1 revRD f) :=
  ⟨PI.imp (pi_revR hg hm (prg_1 hg2 hm2 h.pe hs) hs2) fun σ H Q ⟨F, Gs, Hs, ρ, r, p⟩ => ⟨F, Gs, Hs, ρ, r, (Post.seq anti_I p).imp fun v H1 ⟨Hs1, d, g1, h1, p1⟩ => by
    have h1 : Is _ _ _ _ := h1
    cases d with
    | int j =>
      obtain ⟨⟨k1, k2⟩, p1⟩ := guard_ok p1
      simp only [Is] at h1
      subst h1
      refine ⟨j, rfl, by decide, by decide, by omega, by omega, ?_⟩
      rw [show j - 0 = j by omega]
      exact p1.now g1.sh (itd_revR (by omega))
    | _ => exact p1.elim⟩⟩
/-! ### sep.join(list of texts) -/
def joinS (a : Str) : Option (List Str) → Out D
  | some ys => guard' ((ys.map (·.length)).sum + ys.length * a.length ≤ 1000000) (.ok (.str (Txt.join a ys)))
  | none => .stuck
def joinD (a : Str) : D → Out D
  | .lst xs => joinS a (strsOf xs)
  | _ => .stuck
theorem hd_join {z : Str} {j : Nat} {cpos : Pos} {g : Env → Out D} (he : HD X W e g) (hs : starEach [e] X.env = [(false, eval e X.env)] := by rfl) (hbase : attributeBase (.Constant (.str z) j cpos) "join" X.env (eval (.Constant (.str z) j cpos) X.env) = eval (.Constant (.str z) j cpos) X.env := by rfl) (hline : (apos.endLine == pos.line) = true := by rfl) :
    HD X W (.Call (.Attribute (.Constant (.str z) j cpos) "join" apos) [e] [] pos) (d1 (joinD z) g) :=
  ⟨PE.imp (pe_join (pe_str (x := z)) he.pe hs hbase hline) fun σ H Q ⟨F, Gs, Hs, ρ, r, p⟩ => ⟨⟨z, rfl⟩, F, Gs, Hs, ρ, r, (Post.seq anti_D p).imp fun v H1 ⟨Hs1, d, g1, h1, p1⟩ => by
    have h1 : Is _ _ _ _ := h1
    cases d with
    | lst xs =>
      have p1 : Post (RD X.K) X.mg W σ Hs1 H1 (joinS z (strsOf xs)) Q := p1
      simp only [Is] at h1
      obtain ⟨t, vs, rfl, ht, hv⟩ := h1
      cases q : strsOf xs with
      | none => rw [q] at p1; exact p1.elim
      | some ys =>
        rw [q] at p1
        obtain ⟨ok, p1⟩ := guard_ok p1
        exact ⟨z, t, ys, rfl, rfl, .inl (by rw [← strs_is hv q]; exact SqL.of (g1.sh _ _ ht)), by omega, p1.now g1.sh isS⟩
    | _ => exact p1.elim⟩⟩
end
end G

set_option Elab.async false
set_option linter.all false
set_option maxRecDepth 100000
set_option maxHeartbeats 4000000
namespace G
open PySem PySem.Spec PyProof.Rows L2
open Evl (Ex ex_l ex_t ex_rd)
/-! ### comprehensions that make lists of one's own -/
def lcLk (rest : Out (List (List D))) : S → Out (List (List D))
  | .l y => rest.bind fun ys => .ok (y :: ys)
  | _ => .stuck
def lcL (k : D → Env → Out Env) (el : Env → Out S) (ρ : Env) : List D → Out (List (List D))
  | [] => .ok []
  | d :: ds => (noX (k d ρ)).bind fun ρ1 => (noX (el ρ1)).bind (lcLk (lcL k el ρ ds))
def dLcL (vs : List Nat) (it : Env → Out (List D)) (k : D → Env → Out Env) (el : Env → Out S) : Env → Out S := fun ρ => (it ρ).bind fun ds => guard' (ds.length ≤ cap) ((noX (lcL k el (wipeE ρ vs) ds)).bind fun ys => .ok (.ll ys))
theorem paired_impM {α β : Type} {R R' : α → β → Prop} : ∀ {l₁ : List α} {l₂ : List β}, Paired R l₁ l₂ → (∀ a b, a ∈ l₁ → R a b → R' a b) → Paired R' l₁ l₂
  | _, _, .nil, _ => .nil
  | _, _, .cons r t, f => .cons (f _ _ List.mem_cons_self r) (paired_impM t fun a b h => f a b (List.mem_cons_of_mem _ h))
section
variable {X : Cx} {W : WX} {tg iter elt e a b c : Expr} {ifs : List Expr} {es : List Expr} {pos p1 : Pos} {scope : Scope} {own : List (Str × Nat)}
theorem lc_impL {it : Env → Out (List D)} {g : TG} {asg : List Nat} {k : D → Env → Out Env} {el : Env → Out S} {vs : List Nat} (hg : GRd X.K X.mg g asg k) (hsub : ∀ i ∈ asg, i ∈ vs) {σ : L2.St} {H : Hp} {Q : VK}
    (h : tG (RE X.K X.mg) X.K X.mg W (dLcL vs it k el) σ H Q) : tLc (tG (RIb X.K) X.K X.mg W it) g (tG RT X.K X.mg W0 yesT) (tG (RE X.K X.mg) X.K X.mg W0 el) vs σ H Q := by
  obtain ⟨F, Gs, Hs, ρ, r, p⟩ := h
  refine ⟨F, Gs, Hs, ρ, r, (Post.seq anti_E p).imp fun J H1 ⟨Hs1, ds, g1, hJ, p1⟩ => ?_⟩
  obtain ⟨hcap, p1⟩ := guard_ok p1
  intro Dl hD
  have hDs1 : Hs1 Dl = none := none_of_ex g1.sh hD
  cases z0 : noX (lcL k el (wipeE ρ vs) ds) with
  | exc c' p' => cases q : lcL k el (wipeE ρ vs) ds <;> rw [q] at z0 <;> cases z0
  | stuck => rw [z0] at p1; exact p1.elim
  | ok ys =>
  rw [z0] at p1
  have z := noX_ok z0
  have p1 : Post (RE X.K X.mg) X.mg W σ Hs1 H1 (.ok (.ll ys)) Q := p1
  refine ⟨fun i m H' => ∃ Hs' ps dn rs, m = ds.length - i ∧ i ≤ ds.length ∧ Grow Hs1 H1 Hs' H' ∧ Hs' Dl = none ∧ H' Dl = some (.lst (ps.map V.ref)) ∧ Paired (fun q xs => ∃ vs, H' q = some (.lst vs) ∧ IsAll X.K Hs' xs vs) ps dn ∧ (∀ q ∈ ps, H1 q = none ∧ Hs' q = none) ∧ (Dl :: ps).Nodup ∧ dn.length ≤ i ∧ lcL k el (wipeE ρ vs) (ds.drop i) = .ok rs ∧ dn ++ rs = ys,
    ⟨ds.length, Hs1, [], [], ys, by simp, Nat.zero_le _, Grow.whole g1.sh (Ex.new hD), hDs1, upd_same, .nil, (fun _ h => nomatch h), by simp, Nat.le_refl _, z, rfl⟩, ?_⟩
  rintro i m H' ⟨Hs', ps, dn, rs, rfl, hle, gr, hn, hd, ha, hfr, hnd, hl, hz, hy⟩
  obtain ⟨j1, j2⟩ := hJ i H' gr.h
  have rep' : Rep X.K X.mg F Gs Hs' H' σ ρ := (r.grow g1).grow gr
  cases q : ds[i]? with
  | none =>
    refine .inl ⟨j2 q, ?_⟩
    have e0 : ds.drop i = [] := by
      rw [List.drop_eq_nil_iff]
      exact List.getElem?_eq_none_iff.mp q
    rw [e0] at hz
    unfold lcL at hz
    cases hz
    rw [List.append_nil] at hy
    subst hy
    refine p1 (.ref Dl) Hs' H' gr ⟨Dl :: ps, ⟨Dl, ps, rfl, rfl, hd, ha⟩, fun q hq => ?_, hnd⟩
    rcases List.mem_cons.mp hq with z | z
    · rw [z]; exact ⟨hD, hn⟩
    · exact hfr q z
  | some d =>
    obtain ⟨jg, jy⟩ := j1 d q
    have hlt : i < ds.length := (List.getElem?_eq_some_iff.mp q).1
    have hdr : ds.drop i = d :: ds.drop (i + 1) := by
      rw [List.drop_eq_getElem_cons hlt]
      have := (List.getElem?_eq_some_iff.mp q).2
      rw [this]
    rw [hdr] at hz
    unfold lcL at hz
    obtain ⟨ρ1, z1, hz⟩ := bind_ok hz
    have z1 := noX_ok z1
    refine .inr ⟨jg, fun H2 => ∃ Hs' ps dn rs, i + 1 ≤ ds.length ∧ Grow Hs1 H1 Hs' H2 ∧ Hs' Dl = none ∧ H2 Dl = some (.lst (ps.map V.ref)) ∧ Paired (fun q xs => ∃ vs, H2 q = some (.lst vs) ∧ IsAll X.K Hs' xs vs) ps dn ∧ (∀ q ∈ ps, H1 q = none ∧ Hs' q = none) ∧ (Dl :: ps).Nodup ∧ dn.length ≤ i + 1 ∧ lcL k el (wipeE ρ vs) (ds.drop (i + 1)) = .ok rs ∧ dn ++ rs = ys,
      fun H2 ⟨Hs2, ps2, dn2, rs2, a0, a1, a2, a3, a4, a5, a6, a7, a8, a9⟩ => ⟨ds.length - (i + 1), by omega, Hs2, ps2, dn2, rs2, rfl, a0, a1, a2, a3, a4, a5, a6, a7, a8, a9⟩, fun x H2 y => ?_⟩
    obtain ⟨rfl, hx⟩ := jy x H2 y
    refine hg.rd F Gs Hs' H2 (wipe σ vs) (wipeE ρ vs) d x _ ρ1 (rep'.wipe2 vs) (Is.mono gr.s d hx) z1 fun σ2 r2 k2 => ?_
    refine ⟨?_, F, Gs, Hs', ρ1, r2, ?_⟩
    · refine (wipe_ext (σ' := wipe σ vs) ?_ fun i hi => k2 i fun z => hi (hsub i z)).trans (wipe_ext ?_ fun i hi => by rw [wipe_get, if_neg hi])
      · rw [r2.len, hg.len _ _ _ z1, wipeE_length, wipe_length, rep'.len]
      · rw [wipe_length]
    · show Post RT _ _ _ _ _ (.ok true) _
      intro b' Hs3 H3 g3 hb
      obtain rfl : b' = true := hb
      have n3 : Hs3 Dl = none := by
        cases q3 : Hs3 Dl with
        | none => rfl
        | some o => exact absurd hn (g3.ap Dl (by rw [q3]; simp) (by rw [hd]; simp))
      rw [if_pos rfl]
      obtain ⟨s0, z3, hz⟩ := bind_ok hz
      have z3 := noX_ok z3
      cases s0 with
      | l y0 =>
        have hz : ((lcL k el (wipeE ρ vs) (ds.drop (i + 1))).bind fun ys => .ok (y0 :: ys)) = .ok rs := hz
        obtain ⟨rs', z4, hz⟩ := bind_ok hz
        cases hz
        refine ⟨F, Gs, Hs3, ρ1, r2.grow g3, ?_⟩
        rw [z3]
        intro yv Hs4 H4 g4 hyv
        obtain ⟨fp, ⟨pn, vs', rfl, rfl, e4, ia⟩, hfp, _⟩ := hyv
        obtain ⟨pn3, pn4⟩ := hfp pn (List.mem_singleton.mpr rfl)
        have hd3 : H3 Dl = some (.lst (ps.map V.ref)) := g3.h _ _ hd
        have d4 : H4 Dl = some (.lst (ps.map V.ref)) := g4.h _ _ hd3
        have n4 : Hs4 Dl = none := by
          cases q3 : Hs4 Dl with
          | none => rfl
          | some o => exact absurd n3 (g4.ap Dl (by rw [q3]; simp) (by rw [hd3]; simp))
        have pD : pn ≠ Dl := by rintro rfl; rw [hd3] at pn3; cases pn3
        have inPs : ∀ q ∈ ps, H3 q ≠ none := fun q hq => by
          obtain ⟨xs, _, vs2, h5, _⟩ := paired_mem ha q hq
          rw [g3.h _ _ h5]; simp
        have pps : pn ∉ ps := fun hq => inPs pn hq pn3
        have hal := paired_len ha
        have nDl : Dl ∉ ps := (List.nodup_cons.mp hnd).1
        have gg := (gr.trans g3).trans g4
        refine ⟨ps.map V.ref, d4, by rw [List.length_map, hal]; exact cap_lt (by omega), Hs4, ps ++ [pn], dn ++ [y0], rs', hlt, ?_, n4, by rw [upd_same, List.map_append]; rfl, ?_, ?_, ?_, by rw [List.length_append]; simpa using hl, z4, by rw [List.append_assoc]; exact hy⟩
        · refine ⟨Ex.mut gg.h hD, gg.s, fun a o e => ?_, gg.ap⟩
          rw [upd_ne fun zz => by rw [zz, n4] at e; cases e]
          exact gg.sh a o e
        · refine paired_snoc (paired_impM ha fun q xs hq ⟨vs2, h5, h6⟩ => ⟨vs2, ?_, IsAll.mono g4.s _ (IsAll.mono g3.s _ h6)⟩) ⟨vs', ?_, ia⟩
          · rw [upd_ne (fun zz => nDl (by rw [← zz]; exact hq))]
            exact g4.h _ _ (g3.h _ _ h5)
          · rw [upd_ne pD]; exact e4
        · intro q hq
          rcases List.mem_append.mp hq with z | z
          · refine ⟨(hfr q z).1, ?_⟩
            have k3 : Hs3 q = none := by
              cases q3 : Hs3 q with
              | none => rfl
              | some o =>
                obtain ⟨xs, _, vs2, h5, _⟩ := paired_mem ha q z
                exact absurd (hfr q z).2 (g3.ap q (by rw [q3]; simp) (by rw [h5]; simp))
            cases q4 : Hs4 q with
            | none => rfl
            | some o => exact absurd k3 (g4.ap q (by rw [q4]; simp) (inPs q z))
          · rw [List.mem_singleton] at z
            rw [z]
            refine ⟨?_, pn4⟩
            cases q5 : H1 pn with
            | none => rfl
            | some o => have := g3.h _ _ (gr.h _ _ q5); rw [this] at pn3; cases pn3
        · rw [← List.cons_append]
          refine List.nodup_append.mpr ⟨hnd, by simp, fun a ha b hb => ?_⟩
          rw [List.mem_singleton] at hb
          subst hb
          rintro rfl
          rcases List.mem_cons.mp ha with z | z
          · exact pD z
          · exact pps z
      | _ => cases hz
theorem he_lcL {it : Env → Out (List D)} {g : TG} {asg : List Nat} {k : D → Env → Out Env} {el : Env → Out S} (hc : X.calm = true) (hN : X.N.Nodup) (hi : HIb X W tg iter it) (ok : BlkOk X.N X.env.scope scope own)
    (hg : ∀ (s : Shared) (H : Hp) (C : Addr) (cl : List (Str × Addr)) (fp : List Addr), PG (X.blk s H scope (compEnvC scope cl C X.env) fp) tg g) (hr : GRd X.K X.mg g asg k)
    (he : ∀ (s : Shared) (H : Hp) (C : Addr) (cl : List (Str × Addr)) (fp : List Addr), HE (X.blk s H scope (compEnvC scope cl C X.env) fp) W0 elt el) (hsub : ∀ i ∈ asg, i ∈ own.map (·.2) := by decide) (hs : ∀ x, foldedSetIterable iter X.env x = pure x := by intro _; rfl) :
    HE X W (.ListComp elt [⟨tg, iter, [], 0⟩] scope pos) (dLcL (own.map (·.2)) it k el) :=
  ⟨PE.imp (pe_lc (tt := tG RT X.K X.mg W0 yesT) (te := tG (RE X.K X.mg) X.K X.mg W0 el) hc hN hi.pi ok hg (fun s H C cl fp => pts_yes) (fun s H C cl fp => (he s H C cl fp).pe) hs) fun σ H Q h => lc_impL hr hsub h⟩
theorem hs_lcL (i : Nat) {y : Str} {py spos : Pos} {it : Env → Out (List D)} {g : TG} {asg : List Nat} {k : D → Env → Out Env} {el : Env → Out S} (hc : X.calm = true) (hN : X.N.Nodup) (hy : X.N[i]? = some y) (hyl : X.env.scope.names.lookup y = some .local)
    (hsw : swapsWith (.ListComp elt [⟨tg, iter, [], 0⟩] scope pos) (some (.Name y py)) spos.line X.env = pure true) (hi : HIb X W tg iter it) (ok : BlkOk X.N X.env.scope scope own)
    (hg : ∀ (s : Shared) (H : Hp) (C : Addr) (cl : List (Str × Addr)) (fp : List Addr), PG (X.blk s H scope (compEnvC scope cl C X.env) fp) tg g) (hr : GRd X.K X.mg g asg k)
    (he : ∀ (s : Shared) (H : Hp) (C : Addr) (cl : List (Str × Addr)) (fp : List Addr), HE (X.blk s H scope (compEnvC scope cl C X.env) fp) W0 elt el) (hsub : ∀ i ∈ asg, i ∈ own.map (·.2) := by decide) (hs : ∀ x, foldedSetIterable iter X.env x = pure x := by intro _; rfl) :
    HS1 X W (.Assign [.Name y py] (.ListComp elt [⟨tg, iter, [], 0⟩] scope pos) spos) [i] (sAsgE i (dLcL (own.map (·.2)) it k el)) :=
  ⟨PS.imp (ps_setLc (tt := tG RT X.K X.mg W0 yesT) (te := tG (RE X.K X.mg) X.K X.mg W0 el) hc hN hy hyl hsw hi.pi ok hg (fun s H C cl fp => pts_yes) (fun s H C cl fp => (he s H C cl fp).pe) hs) fun D σ H h => lc_impL hr hsub (asgE_read h), fix_asg⟩
end
/-! ### x[i][j], x[i][j] = v of lists of one's own -/
section
variable {X : Cx} {W : WX} {e a b c ix ix2 : Expr} {es : List Expr} {pos p1 tpos spos : Pos} {x : Str}
def kOix2C (xs : List D) (y : D) : Out D := idxD (.lst xs) y
def kOix2B (h : Env → Out D) (ρ : Env) : Option (List D) → Out D
  | some xs => (h ρ).bind (kOix2C xs)
  | none => .stuck
def kOix2A (h : Env → Out D) (ρ : Env) (xss : List (List D)) : D → Out D
  | .int n => kOix2B h ρ (atI xss n)
  | _ => .stuck
def kOix2 (g h : Env → Out D) (ρ : Env) : Option (Option S) → Out D
  | some (some (.ll xss)) => (g ρ).bind (kOix2A h ρ xss)
  | _ => .stuck
def dOix2 (i : Nat) (g h : Env → Out D) : Env → Out D := fun ρ => kOix2 g h ρ ρ[i]?
theorem atI_j {α : Type} {xs : List α} {n : Int} {x : α} (h : atI xs n = some x) : ∃ j, ixN xs.length n = some j ∧ xs[j]? = some x := by
  unfold atI at h
  cases q : ixN xs.length n with
  | none => rw [q] at h; cases h
  | some j => rw [q] at h; exact ⟨j, rfl, h⟩
theorem hd_oix2 (i : Nat) {g h : Env → Out D} (hg : HD X W ix g) (hi : HD X W ix2 h) (hs1 : PlainIx ix := by intro _ _; rfl) (hs2 : PlainIx ix2 := by intro _ _; rfl) (hN : X.N[i]? = some x := by rfl) (hv : Vis X.env.scope x := by first | exact Or.inl rfl | exact Or.inr (Or.inl rfl) | exact Or.inr (Or.inr rfl)) (hd : (x == ("__debug__" : Str)) = false := by decide)
    (hcd : (x == ("__classdict__" : Str)) = false := by decide) : HD X W (.Subscript (.Subscript (.Name x p1) ix spos) ix2 pos) (dOix2 i g h) := ⟨PE.imp (pe_ix ix_list (pe_ix ix_list (pe_var hN hv hd hcd) hg.pe hs1) hi.pe hs2) fun σ H Q ⟨F, Gs, Hs, ρ, r, p⟩ => by
  have p : Post (RD X.K) X.mg W σ Hs H (kOix2 g h ρ ρ[i]?) Q := p
  cases q : ρ[i]? with
  | none => rw [q] at p; exact p.elim
  | some o =>
    cases o with
    | none => rw [q] at p; exact p.elim
    | some s =>
      cases s with
      | ll xss =>
        rw [q] at p
        have p : Post (RD X.K) X.mg W σ Hs H ((g ρ).bind (kOix2A h ρ xss)) Q := p
        obtain ⟨fp, sl⟩ := id r.sl
        obtain ⟨v0, e0, _⟩ := sl.own i _ q
        refine ⟨v0, e0, F, Gs, Hs, ρ, r, (Post.seq anti_D p).imp fun u H1 ⟨Hs1, z, g1, hz, p1⟩ => ?_⟩
        have hz : Is _ _ _ _ := hz
        cases z with
        | int n =>
          have p1 : Post (RD X.K) X.mg W σ Hs1 H1 (kOix2B h ρ (atI xss n)) Q := p1
          cases w : atI xss n with
          | none => rw [w] at p1; exact p1.elim
          | some xs =>
            rw [w] at p1
            obtain ⟨j, hj, hxs⟩ := atI_j w
            simp only [Is] at hz
            subst hz
            have r1 := r.grow g1
            obtain ⟨pp, vs, q', us, a1, a2, a3, a4, a5, a6, a7, _⟩ := r1.put2 (ys := []) q hxs
            rw [e0] at a1
            cases a1
            refine ⟨pp, vs, n, .ref q', rfl, rfl, SqL.of a2, by unfold atI; rw [a3, hj]; exact a4, F, Gs, Hs1, ρ, r1, (Post.seq anti_D p1).imp fun y H2 ⟨Hs2, d, g2, hy, p2⟩ => ?_⟩
            have hy : Is _ _ _ _ := hy
            cases d with
            | int kk =>
              simp only [Is] at hy
              obtain ⟨d, e4, p2⟩ := oOf_ok p2
              obtain ⟨w2, e5, hd2⟩ := a7.at e4
              exact ⟨q', us, kk, w2, rfl, hy, SqL.of (g2.h _ _ a5), e5, p2.now g2.sh (Is.mono g2.s d hd2)⟩
            | _ => exact p2.elim
        | _ => exact p1.elim
      | _ => rw [q] at p; exact p.elim⟩
def kSet2D (i : Nat) (xss : List (List D)) (j : Nat) (ρ : Env) (ys : List D) : Out Res := .ok (.next (ρ.set i (some (.ll (xss.set j ys)))))
def kSet2C (i : Nat) (xss : List (List D)) (j : Nat) (xs : List D) (d : D) (ρ : Env) (y : D) : Out Res := (kSet xs (y, d)).bind (kSet2D i xss j ρ)
def kSet2E (i : Nat) (h : Env → Out D) (d : D) (ρ : Env) (xss : List (List D)) (j : Nat) : Option (List D) → Out Res
  | some xs => (h ρ).bind (kSet2C i xss j xs d ρ)
  | none => .stuck
def kSet2F (i : Nat) (h : Env → Out D) (d : D) (ρ : Env) (xss : List (List D)) : Option Nat → Out Res
  | some j => kSet2E i h d ρ xss j xss[j]?
  | none => .stuck
def kSet2A (i : Nat) (h : Env → Out D) (d : D) (ρ : Env) (xss : List (List D)) : D → Out Res
  | .int n => kSet2F i h d ρ xss (ixN xss.length n)
  | _ => .stuck
def kSet2B (i : Nat) (g h : Env → Out D) (ρ : Env) (d : D) : Option (Option S) → Out Res
  | some (some (.ll xss)) => (g ρ).bind (kSet2A i h d ρ xss)
  | _ => .stuck
def kSet20 (i : Nat) (g h : Env → Out D) (ρ : Env) (d : D) : Out Res := kSet2B i g h ρ d ρ[i]?
def sSet2 (i : Nat) (f g h : Env → Out D) : Env → Out Res := fun ρ => (f ρ).bind (kSet20 i g h ρ)
theorem hs_set2 (i : Nat) {f g h : Env → Out D} (he : HD X W e f) (hg : HD X W ix g) (hi : HD X W ix2 h) (hs1 : PlainIx ix := by intro _ _; rfl) (hN : X.N[i]? = some x := by rfl) (hv : Vis X.env.scope x := by first | exact Or.inl rfl | exact Or.inr (Or.inl rfl) | exact Or.inr (Or.inr rfl)) (hd : (x == ("__debug__" : Str)) = false := by decide) (hcd : (x == ("__classdict__" : Str)) = false := by decide)
    (ha : ∀ v, assign (.Subscript (.Subscript (.Name x p1) ix spos) ix2 tpos) X.env v = (do
      let ov ← holding [v] (eval (.Subscript (.Name x p1) ix spos) X.env)
      let iv ← holding [v, ov] (eval ix2 X.env)
      standAt tpos
      holding [v, ov, iv] (setItem ov iv v)
      release [v, ov, iv] []) := by intro _; rfl) (hs : swapsWithSole [.Subscript (.Subscript (.Name x p1) ix spos) ix2 tpos] e pos.line X.env = pure false := by rfl) (hw : swappedStores [.Subscript (.Subscript (.Name x p1) ix spos) ix2 tpos] e X.env = pure none := by rfl)
    (h1 : (assignEach [.Subscript (.Subscript (.Name x p1) ix spos) ix2 tpos] X.env).map (·.2) = [assign (.Subscript (.Subscript (.Name x p1) ix spos) ix2 tpos) X.env] := by rfl) : HS1 X W (.Assign [.Subscript (.Subscript (.Name x p1) ix spos) ix2 tpos] e pos) [i] (sSet2 i f g h) :=
  ⟨PS.imp (ps_asg he.pe (pg_sub (pe_ix ix_list (pe_var hN hv hd hcd) hg.pe hs1) hi.pe set_list ha) hs hw h1) fun D σ H ⟨F, Gs, Hs, ρ, r, p⟩ => ⟨F, Gs, Hs, ρ, r, (postS_seq r p).imp fun v H1 ⟨Hs1, d, g1, hd', p1⟩ => by
    have p1 : PostS X.K X.mg W [i] F Gs Hs1 σ (kSet2B i g h ρ d ρ[i]?) D := p1
    cases eq : ρ[i]? with
    | none => rw [eq] at p1; exact p1.elim
    | some o =>
      cases o with
      | none => rw [eq] at p1; exact p1.elim
      | some s =>
        cases s with
        | ll xss =>
          rw [eq] at p1
          have r1 := r.grow g1
          obtain ⟨fp, sl⟩ := id r1.sl
          obtain ⟨v0, e0, _⟩ := sl.own i _ eq
          refine ⟨v0, e0, F, Gs, Hs1, ρ, r1, (postS_seq r1 p1).imp fun u H2 ⟨Hs2, z, g2, hz, p2⟩ => ?_⟩
          have hz : Is _ _ _ _ := hz
          cases z with
          | int n =>
            have p2 : PostS X.K X.mg W [i] F Gs Hs2 σ (kSet2F i h d ρ xss (ixN xss.length n)) D := p2
            cases hj : ixN xss.length n with
            | none => rw [hj] at p2; exact p2.elim
            | some j =>
              rw [hj] at p2
              have p2 : PostS X.K X.mg W [i] F Gs Hs2 σ (kSet2E i h d ρ xss j xss[j]?) D := p2
              cases hxs : xss[j]? with
              | none => rw [hxs] at p2; exact p2.elim
              | some xs =>
                rw [hxs] at p2
                simp only [Is] at hz
                subst hz
                have r2 := r1.grow g2
                obtain ⟨pp, vs, q, us, a1, a2, a3, a4, a5, a6, a7, _⟩ := r2.put2 (ys := []) eq hxs
                rw [e0] at a1
                cases a1
                refine ⟨pp, vs, n, .ref q, rfl, rfl, SqL.of a2, by unfold atI; rw [a3, hj]; exact a4, F, Gs, Hs2, ρ, r2, (postS_seq r2 p2).imp fun y H3 ⟨Hs3, zz, g3, hzz, p3⟩ => ?_⟩
                have hzz : Is _ _ _ _ := hzz
                have r3 := r2.grow g3
                cases zz with
                | int kk =>
                  have p3 : PostS X.K X.mg W [i] F Gs Hs3 σ ((kSet xs (.int kk, d)).bind (kSet2D i xss j ρ)) D := p3
                  unfold kSet at p3
                  dsimp only at p3
                  cases w : ixN xs.length kk with
                  | none => rw [w] at p3; exact p3.elim
                  | some jj =>
                    rw [w] at p3
                    simp only [Is] at hzz
                    obtain ⟨pp', vs', q', us', b1, b2, b3, b4, b5, b6, b7, b8⟩ := r3.put2 (ys := xs.set jj d) eq hxs
                    rw [e0] at b1
                    cases b1
                    have e2 := g3.h _ _ a2
                    rw [b2] at e2
                    cases e2
                    rw [a4] at b4
                    cases b4
                    exact ⟨q, us', kk, jj, rfl, hzz, b5, by rw [b7.len]; exact w, p3 σ Hs3 _ (b8 _ (b7.set jj (Is.mono (g2.s.trans g3.s) d hd'))) (Ex.refl _) fun _ _ => rfl⟩
                | _ => exact p3.elim
          | _ => exact p2.elim
        | _ => rw [eq] at p1; exact p1.elim⟩, fun ρ ρ' e j hj => by
    obtain ⟨d, _, e⟩ := bind_next e
    have e : kSet2B i g h ρ d ρ[i]? = _ := e
    cases eq : ρ[i]? with
    | none => rw [eq] at e; cases e
    | some o =>
      cases o with
      | none => rw [eq] at e; cases e
      | some s =>
        cases s with
        | ll xss =>
          rw [eq] at e
          obtain ⟨z, _, e⟩ := bind_next (show (g ρ).bind (kSet2A i h d ρ xss) = _ from e)
          cases z with
          | int n =>
            have e : kSet2F i h d ρ xss (ixN xss.length n) = _ := e
            cases w : ixN xss.length n with
            | none => rw [w] at e; cases e
            | some jj =>
              rw [w] at e
              have e : kSet2E i h d ρ xss jj xss[jj]? = _ := e
              cases w2 : xss[jj]? with
              | none => rw [w2] at e; cases e
              | some xs =>
                rw [w2] at e
                obtain ⟨y, _, e⟩ := bind_next (show (h ρ).bind (kSet2C i xss jj xs d ρ) = _ from e)
                obtain ⟨ys, _, e⟩ := bind_next (show (kSet xs (y, d)).bind (kSet2D i xss jj ρ) = _ from e)
                cases e; exact congrArg mq (set_out hj)
          | _ => cases e
        | _ => rw [eq] at e; cases e⟩
end
end G

set_option Elab.async false
set_option linter.all false
set_option maxRecDepth 100000
set_option maxHeartbeats 4000000
namespace G
open PySem PySem.Spec PyProof.Rows L2
open Evl (Ex ex_l ex_t ex_rd)
theorem own_keep {K : PySem.W.Frag} {mg : Str → Option Value} {Hs H H' : Hp} : ∀ {s : S} {v : V} {fp : List Addr}, Own K mg Hs H s v fp → (∀ a ∈ fp, ∀ o, H a = some o → H' a = some o) → Own K mg Hs H' s v fp
  | .d d, _, _, h, _ => h
  | .x _ _, _, _, h, _ => h
  | .o _ _, _, _, h, _ => h
  | .l xs, _, _, ⟨p, vs, e1, e2, h1, h2⟩, k => ⟨p, vs, e1, e2, k p (by rw [e2]; exact List.mem_cons_self) _ h1, h2⟩
  | .ll xss, _, _, ⟨p, ps, e1, e2, h1, h2⟩, k => ⟨p, ps, e1, e2, k p (by rw [e2]; exact List.mem_cons_self) _ h1, paired_impM h2 fun q xs hq ⟨vs, h3, h4⟩ => ⟨vs, k q (by rw [e2]; exact List.mem_cons_of_mem _ hq) _ h3, h4⟩⟩
  | .m _ _, _, _, ⟨p, C, dx, vs, e1, e2, h1, h2, h3⟩, k => ⟨p, C, dx, vs, e1, e2, h1, k p (by rw [e2]; exact List.mem_cons_self) _ h2, h3⟩
/-- for w in x + y: w.append(0), of two lists of lists of one's own; all three names are forgotten -/
def kAll2 (i j w : Nat) (ρ : Env) (xs : List (List D)) : Option (List (List D)) → Out Res
  | some ys => guard' ((i ≠ j ∧ w ≠ i ∧ w ≠ j ∧ w < ρ.length) ∧ xs.length + ys.length ≤ cap ∧ (xs ++ ys).all (fun z => decide (z.length < cap)) = true) (.ok (.next (wipeE ρ [i, j, w])))
  | none => .stuck
def kAll1 (i j w : Nat) (ρ : Env) (t : S) : Option (List (List D)) → Out Res
  | some xs => kAll2 i j w ρ xs (llOf t)
  | none => .stuck
def kAll0 (i j w : Nat) (ρ : Env) : Option (Option S) → Option (Option S) → Out Res
  | some (some s), some (some t) => kAll1 i j w ρ t (llOf s)
  | _, _ => .stuck
def sAppAll (i j w : Nat) : Env → Out Res := fun ρ => kAll0 i j w ρ ρ[i]? ρ[j]?
section
variable {X : Cx} {W : WX} {pos pw p1 p2 p3 p4 p5 p6 p7 apos : Pos} {x y wn : Str} {kk : Nat}
theorem all_ok {i j w : Nat} {ρ : Env} {r : Res} (h : sAppAll i j w ρ = .ok r) : ∃ s t xs ys, ρ[i]? = some (some s) ∧ ρ[j]? = some (some t) ∧ llOf s = some xs ∧ llOf t = some ys ∧ (i ≠ j ∧ w ≠ i ∧ w ≠ j ∧ w < ρ.length) ∧ xs.length + ys.length ≤ cap ∧ (xs ++ ys).all (fun z => decide (z.length < cap)) = true ∧ r = .next (wipeE ρ [i, j, w]) := by
  unfold sAppAll at h
  cases e1 : ρ[i]? with
  | none => rw [e1] at h; cases h
  | some o =>
    cases o with
    | none => rw [e1] at h; cases h
    | some s =>
      cases e2 : ρ[j]? with
      | none => rw [e1, e2] at h; cases h
      | some o =>
        cases o with
        | none => rw [e1, e2] at h; cases h
        | some t =>
          rw [e1, e2] at h
          have h : kAll1 i j w ρ t (llOf s) = .ok r := h
          cases e3 : llOf s with
          | none => rw [e3] at h; cases h
          | some xs =>
            rw [e3] at h
            have h : kAll2 i j w ρ xs (llOf t) = .ok r := h
            cases e4 : llOf t with
            | none => rw [e4] at h; cases h
            | some ys =>
              rw [e4] at h
              obtain ⟨⟨c1, c2, c3⟩, h⟩ := guard_eq h
              cases h
              exact ⟨s, t, xs, ys, rfl, rfl, e3, e4, c1, c2, c3, rfl⟩
theorem all_nx {i j w : Nat} {ρ : Env} {c : Str} {p : Option Int} : sAppAll i j w ρ ≠ .exc c p := fun h => by
  unfold sAppAll kAll0 at h
  split at h
  · rename_i s t _ _
    cases e3 : llOf s with
    | none => rw [e3] at h; cases h
    | some xs =>
      rw [e3] at h
      have h : kAll2 i j w ρ xs (llOf t) = .exc c p := h
      cases e4 : llOf t with
      | none => rw [e4] at h; cases h
      | some ys => rw [e4] at h; exact guard_exc h
  · cases h
theorem hs_appAll (i j w : Nat) (po : PassesOwn (model X.prog X.w) X.A X.env X.xe) (hc : X.calm = true) (hN : X.N.Nodup) (hi : X.N[i]? = some x := by rfl) (hj : X.N[j]? = some y := by rfl) (hw : X.N[w]? = some wn := by rfl)
    (vi : Vis X.env.scope x := by first | exact Or.inl rfl | exact Or.inr (Or.inl rfl) | exact Or.inr (Or.inr rfl)) (vj : Vis X.env.scope y := by first | exact Or.inl rfl | exact Or.inr (Or.inl rfl) | exact Or.inr (Or.inr rfl)) (vw : Vis X.env.scope wn := by first | exact Or.inl rfl | exact Or.inr (Or.inl rfl) | exact Or.inr (Or.inr rfl))
    (pg : PG X (.Name wn pw) (gName w)) (di : (x == ("__debug__" : Str)) = false := by decide) (dj : (y == ("__debug__" : Str)) = false := by decide) (dw : (wn == ("__debug__" : Str)) = false := by decide) (ci : (x == ("__classdict__" : Str)) = false := by decide) (cj : (y == ("__classdict__" : Str)) = false := by decide) (cw : (wn == ("__classdict__" : Str)) = false := by decide)
    (hpe : PE X (.Call (.Attribute (.Name wn p4) "append" apos) [.Constant (.int 0) kk p5] [] p6) (tBM X.K "list" rAppend (tVar w) (tCons (tC (.int 0)) tNil)))
    (hsb : swapsWith (.Call (.Attribute (.Name wn p4) "append" apos) [.Constant (.int 0) kk p5] [] p6) none p7.line X.env = pure false := by rfl)
    (hs : ∀ v, foldedSetIterable (.BinOp (.Name x p1) .Add (.Name y p2) p3) X.env v = pure v := by intro _; rfl) :
    HS1 X W (.For (.Name wn pw) (.BinOp (.Name x p1) .Add (.Name y p2) p3) [.Expr (.Call (.Attribute (.Name wn p4) "append" apos) [.Constant (.int 0) kk p5] [] p6) p7] [] pos) [i, j, w] (sAppAll i j w) := by
  refine ⟨PS.imp (ps_for po hc (pi_list (pe_op op_cat (pe_var hi vi di ci) (pe_var hj vj dj cj))) pg (pss_one (ps_expr hpe hsb)) hs) fun D σ H ⟨F, Gs, Hs, ρ, r, p⟩ => ?_, fun ρ ρ' e k hk => ?_⟩
  · cases z : sAppAll i j w ρ with
    | exc c p' => exact (all_nx z).elim
    | stuck => rw [z] at p; exact p.elim
    | ok res =>
      obtain ⟨s, t, xs, ys, e1, e2, l1, l2, ⟨nij, nwi, nwj, nwl⟩, hcap, hall, rfl⟩ := all_ok z
      rw [z] at p
      have p : PostS X.K X.mg W [i, j, w] F Gs Hs σ (.ok (.next (wipeE ρ [i, j, w]))) D := p
      obtain ⟨fp, sl⟩ := id r.sl
      obtain ⟨v1, s1, o1⟩ := sl.own i _ e1
      obtain ⟨v2, s2, o2⟩ := sl.own j _ e2
      obtain ⟨q1, ps, rfl, f1, h1, k1⟩ := own_ll l1 o1
      obtain ⟨q2, qs, rfl, f2, h2, k2⟩ := own_ll l2 o2
      have n1 := paired_len k1
      have n2 := paired_len k2
      refine ⟨.ref q1, s1, .ref q2, s2, q1, q2, ps.map V.ref, qs.map V.ref, rfl, rfl, h1, h2, by rw [List.length_map, List.length_map]; exact cap_le (by omega), fun Dl hDl => ?_⟩
      rw [← List.map_append]
      -- what is walked
      have inL : ∀ a ∈ ps ++ qs, (a ∈ fp i ∨ a ∈ fp j) := fun a ha => by
        rcases List.mem_append.mp ha with q | q
        · exact .inl (by rw [f1]; exact List.mem_cons_of_mem _ q)
        · exact .inr (by rw [f2]; exact List.mem_cons_of_mem _ q)
      have fr : ∀ a ∈ ps ++ qs, F a = none ∧ Hs a = none ∧ H a ≠ none := fun a ha => by
        rcases inL a ha with q | q
        · exact sl.free i a q
        · exact sl.free j a q
      have nd : (ps ++ qs).Nodup := by
        have d1 := sl.nd i
        have d2 := sl.nd j
        rw [f1] at d1
        rw [f2] at d2
        refine List.nodup_append.mpr ⟨(List.nodup_cons.mp d1).2, (List.nodup_cons.mp d2).2, fun a ha b hb => ?_⟩
        rintro rfl
        exact nij (sl.sep i j a (by rw [f1]; exact List.mem_cons_of_mem _ ha) (by rw [f2]; exact List.mem_cons_of_mem _ hb))
      have pr : Paired (fun q zs => ∃ vs, H q = some (.lst vs) ∧ IsAll X.K Hs zs vs) (ps ++ qs) (xs ++ ys) := by
        clear hcap hall n1 n2 o1 o2 h1 h2 f1 f2 inL fr nd l1 l2
        induction k1 with
        | nil => exact k2
        | cons r t ih => exact .cons r ih
      have lst0 : ∀ (k : Nat) (a : Addr), (ps ++ qs)[k]? = some a → ∃ vs, H a = some (.lst vs) ∧ vs.length < cap := fun k a ha => by
        have hk : k < (ps ++ qs).length := (List.getElem?_eq_some_iff.mp ha).1
        have hl := paired_len pr
        have hz : (xs ++ ys)[k]? = some (xs ++ ys)[k] := List.getElem?_eq_getElem (by omega)
        obtain ⟨q, hq, vs, g1, g2⟩ := paired_get k pr hz
        rw [ha] at hq
        cases hq
        refine ⟨vs, g1, ?_⟩
        rw [g2.len]
        have := List.all_eq_true.mp hall _ (List.mem_of_getElem? hz)
        simpa using this
      have hDF : F Dl = none := none_of_ex r.gr.h hDl
      have hDs : Hs Dl = none := none_of_ex r.gr.sh hDl
      have DL : Dl ∉ ps ++ qs := fun q => (fr Dl q).2.2 hDl
      generalize hL : ps ++ qs = L at *
      refine ⟨Dl, rfl, ⟨_, SqL.of upd_same⟩, fun k m σ' H' => m = L.length - k ∧ k ≤ L.length ∧ (∀ a o, a ∉ L → H a = some o → H' a = some o) ∧ H' Dl = some (.lst (L.map V.ref)) ∧ (∀ (l : Nat) (a : Addr), L[l]? = some a → ∃ vs, H' a = some (.lst vs) ∧ (k ≤ l → vs.length < cap)) ∧ σ'.length = σ.length ∧ ∀ l, l ≠ w → σ'[l]? = σ[l]?, ⟨L.length, by simp, Nat.zero_le _, fun a o _ ea => ?_, upd_same, fun l a ha => ?_, rfl, fun _ _ => rfl⟩, ?_⟩
      · rw [upd_ne (fun q => by rw [q, hDl] at ea; cases ea)]; exact ea
      · obtain ⟨vs, g1, g2⟩ := lst0 l a ha
        exact ⟨vs, by rw [upd_ne (fun q => DL (by rw [← q]; exact List.mem_of_getElem? ha))]; exact g1, fun _ => g2⟩
      · rintro k m σ' H' ⟨rfl, hle, hk, hd, hls, hsl, hss⟩
        cases q : L[k]? with
        | none =>
          refine .inl ⟨⟨_, SqL.of hd, by rw [List.length_map]; exact List.getElem?_eq_none_iff.mp q⟩, ?_⟩
          refine p σ' Hs H' ⟨?_, ⟨fun a o ea => hk a o (fun ha => by rw [(fr a ha).1] at ea; cases ea) (r.gr.h _ _ ea), r.gr.s, fun a o ea => hk a o (fun ha => by rw [(fr a ha).2.1] at ea; cases ea) (r.gr.sh _ _ ea), r.gr.ap⟩, fun l => if l = i ∨ l = j ∨ l = w then [] else fp l, fun l s' e => ?_, fun l a ha => ?_, fun l l' a h5 h6 => ?_, fun l => ?_⟩ (Ex.refl _) fun l hl => hss l fun zz => hl (by rw [zz]; simp)
          · rw [hsl, wipeE_length]; exact r.len
          · rw [wipeE_get] at e
            by_cases hm : l ∈ [i, j, w]
            · rw [if_pos hm] at e; split at e <;> cases e
            · rw [if_neg hm] at e
              have hm' : ¬ (l = i ∨ l = j ∨ l = w) := by simpa using hm
              obtain ⟨v, e3, o⟩ := sl.own l s' e
              rw [if_neg hm']
              refine ⟨v, by rw [hss l (fun zz => hm' (.inr (.inr zz)))]; exact e3, own_keep o fun a ha o' ea => hk a o' (fun hL' => ?_) ea⟩
              rcases inL a hL' with z | z
              · exact hm' (.inl (sl.sep l i a ha z))
              · exact hm' (.inr (.inl (sl.sep l j a ha z)))
          · split at ha
            · cases ha
            · rename_i hm'
              obtain ⟨a1, a2, a3⟩ := sl.free l a ha
              refine ⟨a1, a2, ?_⟩
              cases zz : H a with
              | none => exact absurd zz a3
              | some o =>
                rw [hk a o (fun hL' => by
                  rcases inL a hL' with z | z
                  · exact hm' (.inl (sl.sep l i a ha z))
                  · exact hm' (.inr (.inl (sl.sep l j a ha z)))) zz]; simp
          · split at h5
            · cases h5
            · split at h6
              · cases h6
              · exact sl.sep l l' a h5 h6
          · split
            · exact List.nodup_nil
            · exact sl.nd l
        | some a =>
          have hlt : k < L.length := (List.getElem?_eq_some_iff.mp q).1
          have ex : (L.map V.ref)[k]? = some (.ref a) := by rw [List.getElem?_map, q]; rfl
          refine .inr ⟨⟨_, _, SqL.of hd, ex⟩, fun σ2 H2 => k + 1 ≤ L.length ∧ (∀ a o, a ∉ L → H a = some o → H2 a = some o) ∧ H2 Dl = some (.lst (L.map V.ref)) ∧ (∀ (l : Nat) (a : Addr), L[l]? = some a → ∃ vs, H2 a = some (.lst vs) ∧ (k + 1 ≤ l → vs.length < cap)) ∧ σ2.length = σ.length ∧ ∀ l, l ≠ w → σ2[l]? = σ[l]?, fun σ2 H2 ⟨a1, a2, a3, a4, a5, a6⟩ => ⟨L.length - (k + 1), by omega, rfl, a1, a2, a3, a4, a5, a6⟩, fun v H2 yv => ?_⟩
          obtain ⟨rfl, yv⟩ := yv
          have hv : (L.map V.ref)[k]? = some v := yv _ (SqL.of hd)
          rw [ex] at hv
          cases hv
          obtain ⟨vs, g1, g2⟩ := hls k a q
          have hwl : w < σ'.length := by rw [hsl, r.len]; exact nwl
          have aD : a ≠ Dl := fun zz => DL (by rw [← zz]; exact List.mem_of_getElem? q)
          refine ⟨.ref a, by rw [List.getElem?_set_self hwl], .inl ⟨rfl, vs, SqL.of g1⟩, a, vs, .int 0, rfl, rfl, g1, cap_lt (Nat.le_of_lt (g2 (Nat.le_refl _))), hlt, fun b o hb eb => ?_, ?_, fun l b hb => ?_, by rw [List.length_set]; exact hsl, fun l hl => by rw [List.getElem?_set_ne (Ne.symm hl)]; exact hss l hl⟩
          · rw [upd_ne (fun zz => hb (by rw [zz]; exact List.mem_of_getElem? q))]; exact hk b o hb eb
          · rw [upd_ne (Ne.symm aD)]; exact hd
          · by_cases hab : b = a
            · subst hab
              refine ⟨_, upd_same, fun hkl => ?_⟩
              have : l = k := by
                have h1 := (List.getElem?_eq_some_iff.mp hb)
                have h2 := (List.getElem?_eq_some_iff.mp q)
                exact (List.getElem_inj nd).mp (h1.2.trans h2.2.symm)
              omega
            · obtain ⟨us, g3, g4⟩ := hls l b hb
              exact ⟨us, by rw [upd_ne hab]; exact g3, fun hkl => g4 (by omega)⟩
  · obtain ⟨s, t, xs, ys, e1, e2, l1, l2, c1, c2, c3, e3⟩ := all_ok e
    cases e3
    rw [wipeE_get, if_neg hk]
end
end G

set_option Elab.async false
set_option linter.all false
set_option maxRecDepth 100000
set_option maxHeartbeats 4000000
namespace G
open PySem PySem.Spec PyProof.Rows L2
open Evl (Ex ex_l ex_t ex_rd)
section
variable {X : Cx} {W : WX} {a b c : Expr} {pos : Pos}
theorem pt_ifx {tA tB tC : TT} (hc : PT X c tA) (ha : PT X a tB) (hb : PT X b tC) : PT X (.IfExp c a b pos) (fun σ H Q => tA σ H fun d H1 => if d = true then tB σ H1 Q else tC σ H1 Q) := ⟨fun pins s σ H Q I h => by
  have e : PySem.isTrue (.IfExp c a b pos) X.env (eval (.IfExp c a b pos) X.env) = (do if ← PySem.isTrue c X.env (eval c X.env) then PySem.isTrue a X.env (eval a X.env) else PySem.isTrue b X.env (eval b X.env)) := by rw [PySem.isTrue]
  rw [e]
  refine wpAny_bind (thn (hc.run pins s σ H _ I h) fun d s1 ⟨H1, I1, q1⟩ => ?_)
  cases d with
  | true =>
    rw [if_pos rfl] at q1 ⊢
    exact ha.run pins s1 σ H1 Q I1 q1
  | false =>
    rw [if_neg Bool.false_ne_true] at q1 ⊢
    exact hb.run pins s1 σ H1 Q I1 q1⟩
theorem ht_if {t f g : Env → Out Bool} (hc : HT X W c t) (ha : HT X W a f) (hb : HT X W b g) : HT X W (.IfExp c a b pos) (dIf t f g) :=
  ⟨PT.imp (pt_ifx hc.pt ha.pt hb.pt) fun σ H Q ⟨F, Gs, Hs, ρ, r, p⟩ => ⟨F, Gs, Hs, ρ, r, (Post.seq anti_T p).imp fun v H1 ⟨Hs1, d, g1, h1, p1⟩ => by
    obtain rfl : v = d := h1
    cases v with
    | true => rw [if_pos rfl]; exact ⟨F, Gs, Hs1, ρ, r.grow g1, p1⟩
    | false => rw [if_neg Bool.false_ne_true]; exact ⟨F, Gs, Hs1, ρ, r.grow g1, p1⟩⟩⟩
end
end G

set_option Elab.async false
set_option linter.all false
set_option maxRecDepth 100000
set_option maxHeartbeats 4000000
namespace G
open PySem PySem.Spec PyProof.Rows L2
open Evl (Ex ex_l ex_t ex_rd)
/-! ### {k: v, ..}.get(x, y) of a display of texts and ints -/
def dgetD (tab : List (Str × Int)) : D → D → Out D
  | .str z, d => .ok (match tabV tab z with | some i => .int i | none => d)
  | _, _ => .stuck
def tabT (tab : List (Str × Int)) : List (TE × TE) := tab.map fun p => (tC (.str p.1), tC (.int p.2))
def tabK (tab : List (Str × Int)) : List (Key × V) := tab.map fun p => (Sum.inr p.1, V.int p.2)
theorem tabT_run : ∀ (tab : List (Str × Int)) (σ : L2.St) (H : Hp) (Q : List (V × V) → Hp → Prop), Q ((tabK tab).map fun kv => (kV kv.1, kv.2)) H → tPairs (tabT tab) σ H Q
  | [], _, _, _, h => h
  | p :: tab, σ, H, Q, h => tabT_run tab σ H _ h
theorem tabK_val (z : Str) : ∀ tab : List (Str × Int), valV (tabK tab) (Sum.inr z) = (tabV tab z).map V.int
  | [] => rfl
  | p :: tab => by
    have ih := tabK_val z tab
    unfold tabV
    rw [List.find?_cons]
    cases q : (p.1 == z) with
    | true =>
      rw [show tabK (p :: tab) = (Sum.inr p.1, V.int p.2) :: tabK tab from rfl, valV_pos (by rw [eq_of_beq q])]
      rfl
    | false =>
      rw [show tabK (p :: tab) = (Sum.inr p.1, V.int p.2) :: tabK tab from rfl, valV_neg (by
        intro e
        have e : (Sum.inr p.1 : Key) = Sum.inr z := e
        rw [Sum.inr.inj e] at q
        rw [beq_self_eq_true] at q; cases q), ih]
      rfl
section
variable {X : Cx} {W : WX} {e a b c ix e2 : Expr} {es : List Expr} {pos p1 tpos spos dpos apos : Pos} {x y : Str} {tab : List (Str × Int)} {keys : List (Option Expr)} {values : List Expr}
theorem hd_dget (tab : List (Str × Int)) {f h : Env → Out D} (hu : X.A.units + 64 < cLine) (hp : PPs X dpos keys values (tabT tab)) (he : HD X W e f) (hx : HD X W e2 h) (hm : mergeK [] (tabK tab) = tabK tab) (h0 : keys ≠ []) (hall : keys.all (·.isSome) = true := by rfl) (hl : keys.length = values.length := by rfl)
    (h15 : keys.length ≤ 15 := by decide) (hk : tab.length ≤ 15 := by decide) (m : M2 X (.Dict keys values dpos) "get" apos e e2 pos := by exact ⟨rfl, rfl, rfl, rfl⟩) : HD X W (.Call (.Attribute (.Dict keys values dpos) "get" apos) [e, e2] [] pos) (d2 (dgetD tab) f h) := by
  refine ⟨PE.imp (pe_dget2 (by omega) (pe_disp hp hall hl h0 h15) he.pe hx.pe m) fun σ H Q ⟨F, Gs, Hs, ρ, r, p⟩ => fun q hq => tabT_run tab _ _ _ ⟨upd_same, tabK tab, rfl, by unfold tabK; rw [List.length_map]; exact hk, q, rfl, .inl ⟨_, .inl upd_same⟩, ?_⟩⟩
  rw [hm]
  have ex : Ex H (upd (upd H q (.dK [])) q (.dK (tabK tab))) := fun a o z => by
    have ne : a ≠ q := fun w => by rw [w, hq] at z; cases z
    rw [upd_ne ne, upd_ne ne]; exact z
  have g0 := Grow.whole r.sh ex
  have p : Post (RD X.K) X.mg W σ Hs H ((f ρ).bind fun d => (h ρ).bind fun d' => dgetD tab d d') Q := p
  have r0 := r.grow g0
  refine ⟨F, Gs, Hs, ρ, r0, (Post.seq anti_D (Post.mono anti_D p g0)).imp fun v H1 ⟨Hs1, d, g1, h1, p1⟩ => ⟨F, Gs, Hs1, ρ, r0.grow g1, (Post.seq anti_D p1).imp fun u H2 ⟨Hs2, d', g2, h2, p2⟩ => ?_⟩⟩
  have h1 : Is _ _ _ _ := h1
  have h2 : Is _ _ _ _ := h2
  cases d with
  | str z =>
    simp only [Is] at h1
    subst h1
    have hd : H2 q = some (.dK (tabK tab)) := g2.h _ _ (g1.h _ _ upd_same)
    refine ⟨_, DGet.k (k := Sum.inr z) hd, Post.now (R := RD X.K) p2 g2.sh ?_⟩
    rw [tabK_val]
    show Is _ _ _ _
    cases tabV tab z with
    | none => exact h2
    | some i => exact isI
  | _ => exact p2.elim
/-! ### a list taken out of a list of lists, and put back -/
structure HS2 (X : Cx) (W : WX) (sts : List Stmt) (asg asgr : List Nat) (f : Env → Out Res) : Prop where
  pss : PSs X sts (tS X.K X.mg W asg f)
  fix : Fix asgr f
theorem hs_cons2 {st : Stmt} {rest : List Stmt} {asg asg' asgr : List Nat} {f g : Env → Out Res} (h1 : HS1 X W st asg f) (h2 : HS2 X W rest asg' asgr g) : HS2 X W (st :: rest) (asg ++ asg') (asg ++ asgr) (sSeq f g) := by
  refine ⟨PSs.imp (pss_cons h1.ps h2.pss) fun D σ H ⟨F, Gs, Hs, ρ, r, p⟩ => ⟨F, Gs, Hs, ρ, r, ?_⟩, fix_seq h1.fix h2.fix⟩
  unfold sSeq at p
  cases q : f ρ with
  | ok r1 =>
    rw [q] at p
    cases r1 with
    | next ρ1 =>
      intro σ1 Hs1 H1 r1 e1 k1
      refine ⟨F, Gs, Hs1, ρ1, r1, ?_⟩
      have p : PostS X.K X.mg W (asg ++ asg') F Gs Hs σ (g ρ1) D := p
      cases q2 : g ρ1 with
      | ok r2 =>
        rw [q2] at p
        cases r2 with
        | next ρ2 => exact fun σ2 Hs2 H2 r2 e2 k2 => p σ2 Hs2 H2 r2 (e1.trans e2) fun i hi => (k2 i fun z => hi (List.mem_append_right _ z)).trans (k1 i fun z => hi (List.mem_append_left _ z))
        | ret s => exact p
      | exc c p' => rw [q2] at p; exact p
      | stuck => rw [q2] at p; exact p
    | ret s => exact p
  | exc c p' => rw [q] at p; exact p
  | stuck => rw [q] at p; exact p
/-- x[i] = e, the name x stays -/
theorem hs_set_k (i : Nat) {f g : Env → Out D} (he : HD X W e f) (hi : HD X W ix g) (hN : X.N[i]? = some x := by rfl) (hv : Vis X.env.scope x := by first | exact Or.inl rfl | exact Or.inr (Or.inl rfl) | exact Or.inr (Or.inr rfl)) (hd : (x == ("__debug__" : Str)) = false := by decide) (hcd : (x == ("__classdict__" : Str)) = false := by decide)
    (ha : ∀ v, assign (.Subscript (.Name x p1) ix tpos) X.env v = (do
      let ov ← holding [v] (eval (.Name x p1) X.env)
      let iv ← holding [v, ov] (eval ix X.env)
      standAt tpos
      holding [v, ov, iv] (setItem ov iv v)
      release [v, ov, iv] []) := by intro _; rfl) (hs : swapsWithSole [.Subscript (.Name x p1) ix tpos] e pos.line X.env = pure false := by rfl) (hw : swappedStores [.Subscript (.Name x p1) ix tpos] e X.env = pure none := by rfl)
    (h1 : (assignEach [.Subscript (.Name x p1) ix tpos] X.env).map (·.2) = [assign (.Subscript (.Name x p1) ix tpos) X.env] := by rfl) : HS2 X W [.Assign [.Subscript (.Name x p1) ix tpos] e pos] [] [i] (sSet i f g) :=
  ⟨pss_one (PS.imp (ps_asg he.pe (pg_sub (pe_var hN hv hd hcd) hi.pe set_list ha) hs hw h1) fun D σ H ⟨F, Gs, Hs, ρ, r, p⟩ => ⟨F, Gs, Hs, ρ, r, (postS_seq r p).imp fun v H1 ⟨Hs1, d, g1, hd', p1⟩ => by
    split at p1
    · rename_i xs eq
      have r1 := r.grow g1
      obtain ⟨q, vs, e1, a1, a2, a3, _⟩ := r1.put (xs' := []) eq
      refine ⟨.ref q, e1, F, Gs, Hs1, ρ, r1, (postS_seq r1 p1).imp fun y H2 ⟨Hs2, z, g2, hz, p2⟩ => ?_⟩
      have r2 := r1.grow g2
      have hz : Is _ _ _ _ := hz
      unfold kSet at p2
      cases z with
      | int kk =>
        dsimp only at p2
        cases zz : ixN xs.length kk with
        | none => rw [zz] at p2; exact p2.elim
        | some jj =>
          rw [zz] at p2
          simp only [Is] at hz
          obtain ⟨q', vs1, e2, b1, b2, b3, b4⟩ := r2.put (xs' := xs.set jj d) eq
          rw [e1] at e2
          cases e2
          exact ⟨q, vs1, kk, jj, rfl, hz, b1, by rw [b3.len]; exact zz, p2 σ Hs2 _ (b4 _ (b3.set jj (Is.mono g2.s d hd'))) (Ex.refl _) fun _ _ => rfl⟩
      | _ => exact p2.elim
    · exact p1.elim⟩), fun ρ ρ' e j hj => by
    obtain ⟨d, _, e⟩ := bind_next e
    split at e
    · obtain ⟨z, _, e⟩ := bind_next e
      obtain ⟨ys, _, e⟩ := bind_next e
      cases e; exact congrArg mq (set_out hj)
    · cases e⟩
theorem hs_frz2 (i : Nat) {sts : List Stmt} {asg asgr : List Nat} {f : Env → Out Res} (h : HS2 X W sts asg asgr f) : HS2 X W sts ([i] ++ asg) ([i] ++ asgr) (fun ρ => f (frzE ρ i)) :=
  ⟨PSs.imp h.pss fun D σ H ⟨F, Gs, Hs, ρ, r, p⟩ => by
    obtain ⟨Hs', e, r'⟩ := r.frz i
    exact ⟨F, Gs, Hs', frzE ρ i, r', (PostS.mono p e fun _ _ => rfl).wider fun j hj => List.mem_append_right _ hj⟩, fun ρ ρ' e j hj => (h.fix _ _ e j fun z => hj (List.mem_append_right _ z)).trans (congrArg mq (frzE_out fun z => hj (List.mem_append_left _ z)))⟩
def kLendE (i w : Nat) (xss : List (List D)) (j : Nat) (ρ' : Env) : Option (Option S) → Out Res
  | some (some (.l ys)) => .ok (.next ((ρ'.set i (some (.ll (xss.set j ys)))).set w none))
  | _ => .stuck
def kLendD (i w : Nat) (xss : List (List D)) (j : Nat) : Out Res → Out Res
  | .ok (.next ρ') => kLendE i w xss j ρ' ρ'[w]?
  | _ => .stuck
def kLendC (i w : Nat) (f : Env → Out Res) (ρ : Env) (xss : List (List D)) (j : Nat) : Option (List D) → Out Res
  | some xs => guard' (w < ρ.length) (kLendD i w xss j (f ((ρ.set i none).set w (some (.l xs)))))
  | none => .stuck
def kLendB (i w : Nat) (f : Env → Out Res) (ρ : Env) (xss : List (List D)) : Option Nat → Out Res
  | some j => kLendC i w f ρ xss j xss[j]?
  | none => .stuck
def kLendA (i w : Nat) (f : Env → Out Res) (ρ : Env) (xss : List (List D)) : D → Out Res
  | .int n => kLendB i w f ρ xss (ixN xss.length n)
  | _ => .stuck
def kLend (i w : Nat) (g : Env → Out D) (f : Env → Out Res) (ρ : Env) : Option (Option S) → Out Res
  | some (some (.ll xss)) => (g ρ).bind (kLendA i w f ρ xss)
  | _ => .stuck
def sLend (i w : Nat) (g : Env → Out D) (f : Env → Out Res) : Env → Out Res := fun ρ => kLend i w g f ρ ρ[i]?
theorem paired_put {α β : Type} {R R' : α → β → Prop} {q : α} {y : β} : ∀ {l₁ : List α} {l₂ : List β} {j : Nat}, Paired R l₁ l₂ → l₁[j]? = some q → l₁.Nodup → (∀ a b, a ∈ l₁ → a ≠ q → R a b → R' a b) → R' q y → Paired R' l₁ (l₂.set j y)
  | _, _, _, .nil, e, _, _, _ => by cases e
  | a :: l₁, b :: l₂, 0, .cons r t, e, nd, f, h => by
    rw [List.getElem?_cons_zero] at e
    cases e
    refine .cons h ?_
    have keep : ∀ {m₁ : List α} {m₂ : List β}, Paired R m₁ m₂ → (∀ x ∈ m₁, x ∈ l₁) → Paired R' m₁ m₂ := by
      intro m₁ m₂ p
      induction p with
      | nil => intro _; exact .nil
      | cons r t ih => intro s; exact .cons (f _ _ (List.mem_cons_of_mem _ (s _ List.mem_cons_self)) (fun z => (List.nodup_cons.mp nd).1 (z ▸ s _ List.mem_cons_self)) r) (ih fun x hx => s x (List.mem_cons_of_mem _ hx))
    exact keep t fun _ hx => hx
  | a :: l₁, b :: l₂, j + 1, .cons r t, e, nd, f, h => by
    rw [List.getElem?_cons_succ] at e
    have nd' := List.nodup_cons.mp nd
    refine .cons (f _ _ List.mem_cons_self (fun z => nd'.1 (z ▸ List.mem_of_getElem? e)) r) (paired_put t e nd'.2 (fun a b ha => f a b (List.mem_cons_of_mem _ ha)) h)
open Classical in
theorem hs_lend (i w : Nat) {g : Env → Out D} {f : Env → Out Res} {rest : List Stmt} {asg asgr : List Nat} {py : Pos} (hN : X.N.Nodup) (hw : X.N[w]? = some y) (hy : Loc X.env.scope y) (hix : HD X W ix g) (h2 : HS2 X W rest asg asgr f) (ni : i ∉ asg) (nw : w ∉ asg) (ni' : i ∉ asgr) (iw : i ≠ w) (hs1 : PlainIx ix := by intro _ _; rfl)
    (hi : X.N[i]? = some x := by rfl) (hv : Vis X.env.scope x := by first | exact Or.inl rfl | exact Or.inr (Or.inl rfl) | exact Or.inr (Or.inr rfl)) (hd : (x == ("__debug__" : Str)) = false := by decide) (hcd : (x == ("__classdict__" : Str)) = false := by decide)
    (hs : swapsWith (.Subscript (.Name x p1) ix spos) (some (.Name y py)) pos.line X.env = pure false := by rfl) (hf : X.fn y = true ∨ X.env.scope.names.lookup y = some .local := by first | exact .inl rfl | exact .inr rfl | assumption) :
    HS X W (.Assign [.Name y py] (.Subscript (.Name x p1) ix spos) pos :: rest) (i :: w :: (asg ++ asgr)) (sLend i w g f) := by
  refine ⟨PSs.imp (pss_cons (ps_set hN hw hy (pe_ix ix_list (pe_var hi hv hd hcd) hix.pe hs1) hs hf) h2.pss) fun D σ H ⟨F, Gs, Hs, ρ, r, p⟩ => ?_, fun ρ ρ' e k hk => ?_⟩
  · have p : PostS X.K X.mg W (i :: w :: (asg ++ asgr)) F Gs Hs σ (kLend i w g f ρ ρ[i]?) D := p
    cases q : ρ[i]? with
    | none => rw [q] at p; exact p.elim
    | some o =>
      cases o with
      | none => rw [q] at p; exact p.elim
      | some s =>
        cases s with
        | ll xss =>
          rw [q] at p
          have p : PostS X.K X.mg W (i :: w :: (asg ++ asgr)) F Gs Hs σ ((g ρ).bind (kLendA i w f ρ xss)) D := p
          obtain ⟨fp0, sl0⟩ := id r.sl
          obtain ⟨v0, e0, _⟩ := sl0.own i _ q
          refine ⟨v0, e0, F, Gs, Hs, ρ, r, (postS_seq r p).imp fun u H1 ⟨Hs1, z, g1, hz, p1⟩ => ?_⟩
          have hz : Is _ _ _ _ := hz
          cases z with
          | int n =>
            simp only [Is] at hz
            subst hz
            have p1 : PostS X.K X.mg W (i :: w :: (asg ++ asgr)) F Gs Hs1 σ (kLendB i w f ρ xss (ixN xss.length n)) D := p1
            cases hj : ixN xss.length n with
            | none => rw [hj] at p1; exact p1.elim
            | some j =>
              rw [hj] at p1
              have p1 : PostS X.K X.mg W (i :: w :: (asg ++ asgr)) F Gs Hs1 σ (kLendC i w f ρ xss j xss[j]?) D := p1
              cases hx : xss[j]? with
              | none => rw [hx] at p1; exact p1.elim
              | some xs =>
                rw [hx] at p1
                obtain ⟨wl, p1⟩ := guard_okS p1
                have r1 := r.grow g1
                obtain ⟨fp, sl⟩ := id r1.sl
                obtain ⟨v, e1, pp, ps, rfl, e3, b1, b2⟩ := sl.own i _ q
                rw [e0] at e1
                cases e1
                obtain ⟨qq, e4, us, b3, b4⟩ := paired_get j b2 hx
                have len2 := paired_len b2
                have nd := sl.nd i
                rw [e3] at nd
                have ndp := List.nodup_cons.mp nd
                have qin : qq ∈ ps := List.mem_of_getElem? e4
                have pq : pp ≠ qq := fun z => ndp.1 (z ▸ qin)
                have wσ : w < σ.length := by rw [r1.len]; exact wl
                refine ⟨pp, ps.map V.ref, n, .ref qq, rfl, rfl, SqL.of b1, by unfold atI; rw [List.length_map, len2, hj]; show (ps.map V.ref)[j]? = _; rw [List.getElem?_map, e4]; rfl, ?_⟩
                -- the frame while the list is lent
                have inO : ∀ a, a ∈ pp :: ps → F a = none ∧ Hs1 a = none ∧ H1 a ≠ none := fun a ha => sl.free i a (by rw [e3]; exact ha)
                let F1 : Hp := fun a => if a ∈ pp :: ps ∧ a ≠ qq then H1 a else F a
                have F1y : ∀ a, a ∈ pp :: ps → a ≠ qq → F1 a = H1 a := fun a h1 h2 => if_pos ⟨h1, h2⟩
                have F1n : ∀ a, a ∉ pp :: ps → F1 a = F a := fun a h1 => if_neg fun z => h1 z.1
                have F1q : F1 qq = F qq := if_neg fun z => z.2 rfl
                have rep1 : Rep X.K X.mg F1 Gs Hs1 H1 (σ.set w (some (.ref qq))) ((ρ.set i none).set w (some (.l xs))) := by
                  refine ⟨by rw [List.length_set, List.length_set, List.length_set]; exact r1.len, ⟨fun a o z => ?_, r1.gr.s, r1.gr.sh, fun a z1 z2 => ?_⟩, fun k => if k = w then [qq] else if k = i then [] else fp k, fun k s' e5 => ?_, fun k a ha => ?_, fun k l a h3 h4 => ?_, fun k => ?_⟩
                  · by_cases c : a ∈ pp :: ps ∧ a ≠ qq
                    · rw [F1y a c.1 c.2] at z; exact z
                    · have : F1 a = F a := if_neg c
                      rw [this] at z; exact r1.gr.h a o z
                  · by_cases c : a ∈ pp :: ps ∧ a ≠ qq
                    · exact absurd (inO a c.1).2.1 z1
                    · have : F1 a = F a := if_neg c
                      rw [this] at z2; exact r1.gr.ap a z1 z2
                  · by_cases hk : k = w
                    · subst hk
                      rw [List.getElem?_set_self (by rw [List.length_set]; exact wl)] at e5
                      cases e5
                      exact ⟨.ref qq, List.getElem?_set_self wσ, qq, us, rfl, if_pos rfl, b3, b4⟩
                    · rw [List.getElem?_set_ne (Ne.symm hk)] at e5
                      by_cases hki : k = i
                      · subst hki
                        rw [List.getElem?_set_self (List.getElem?_eq_some_iff.mp q).1] at e5
                        cases e5
                      · rw [List.getElem?_set_ne (Ne.symm hki)] at e5
                        obtain ⟨u', e6, o⟩ := sl.own k s' e5
                        refine ⟨u', by rw [List.getElem?_set_ne (Ne.symm hk)]; exact e6, ?_⟩
                        rw [if_neg hk, if_neg hki]; exact o
                  · by_cases hk : k = w
                    · rw [if_pos hk] at ha
                      rw [List.mem_singleton.mp ha, F1q]
                      exact inO qq (List.mem_cons_of_mem _ qin)
                    · rw [if_neg hk] at ha
                      by_cases hki : k = i
                      · rw [if_pos hki] at ha; cases ha
                      · rw [if_neg hki] at ha
                        have : a ∉ pp :: ps := fun z => hki (sl.sep k i a ha (by rw [e3]; exact z))
                        rw [F1n a this]; exact sl.free k a ha
                  · have key : ∀ k, a ∈ (if k = w then [qq] else if k = i then [] else fp k) → (k = w ∧ a = qq) ∨ (k ≠ w ∧ k ≠ i ∧ a ∈ fp k) := fun k ha => by
                      by_cases hk : k = w
                      · rw [if_pos hk] at ha; exact .inl ⟨hk, List.mem_singleton.mp ha⟩
                      · rw [if_neg hk] at ha
                        by_cases hki : k = i
                        · rw [if_pos hki] at ha; cases ha
                        · rw [if_neg hki] at ha; exact .inr ⟨hk, hki, ha⟩
                    have qi : qq ∈ fp i := by rw [e3]; exact List.mem_cons_of_mem _ qin
                    rcases key k h3 with ⟨a1, a2⟩ | ⟨_, a1, a2⟩
                    · rcases key l h4 with ⟨c1, c2⟩ | ⟨_, c1, c2⟩
                      · rw [a1, c1]
                      · rw [a2] at c2; exact absurd (sl.sep l i qq c2 qi) c1
                    · rcases key l h4 with ⟨c1, c2⟩ | ⟨_, c1, c2⟩
                      · rw [c2] at a2; exact absurd (sl.sep k i qq a2 qi) a1
                      · exact sl.sep k l a a2 c2
                  · show (if k = w then [qq] else if k = i then [] else fp k).Nodup
                    split
                    · exact List.nodup_cons.mpr ⟨List.not_mem_nil, List.nodup_nil⟩
                    · split
                      · exact List.nodup_nil
                      · exact sl.nd k
                refine ⟨F1, Gs, Hs1, _, rep1, ?_⟩
                have fx := h2.fix ((ρ.set i none).set w (some (.l xs)))
                cases hr : f ((ρ.set i none).set w (some (.l xs))) with
                | exc c p' => rw [hr] at p1; exact p1.elim
                | stuck => rw [hr] at p1; exact p1.elim
                | ok res =>
                  cases res with
                  | ret s => rw [hr] at p1; exact p1.elim
                  | next ρ2 =>
                    rw [hr] at p1
                    have p1 : PostS X.K X.mg W (i :: w :: (asg ++ asgr)) F Gs Hs1 σ (kLendE i w xss j ρ2 ρ2[w]?) D := p1
                    intro σ2 Hs2 H2 r2 ex2 k2
                    cases hy2 : ρ2[w]? with
                    | none => rw [hy2] at p1; exact p1.elim
                    | some o2 =>
                      cases o2 with
                      | none => rw [hy2] at p1; exact p1.elim
                      | some s2 =>
                        cases s2 with
                        | l ys =>
                          rw [hy2] at p1
                          have p1 : ∀ σ' Hs' H', Rep X.K X.mg F Gs Hs' H' σ' ((ρ2.set i (some (.ll (xss.set j ys)))).set w none) → Ex Hs1 Hs' → (∀ k, k ∉ (i :: w :: (asg ++ asgr)) → σ'[k]? = σ[k]?) → D.nx σ' H' := p1
                          obtain ⟨fp2, sl2⟩ := id r2.sl
                          obtain ⟨v2, e6, q2, vs2, rfl, e7, c1, c2⟩ := sl2.own w _ hy2
                          have ew := k2 w nw
                          rw [e6, List.getElem?_set_self wσ] at ew
                          cases ew
                          have ei : σ2[i]? = some (some (.ref pp)) := by rw [k2 i ni, List.getElem?_set_ne (Ne.symm iw)]; exact e0
                          have ri : i < ρ2.length := by rw [← r2.len]; exact (List.getElem?_eq_some_iff.mp ei).1
                          have qw : qq ∈ fp2 w := by rw [e7]; exact List.mem_cons_self
                          have keepH : ∀ a, a ∈ pp :: ps → a ≠ qq → H2 a = H1 a := fun a h1 h2 => by
                            have z := F1y a h1 h2
                            cases y1 : H1 a with
                            | none => exact absurd y1 (inO a h1).2.2
                            | some oo => exact r2.gr.h a oo (by rw [z, y1])
                          have stab : ∀ a, a ∈ pp :: ps → Hs2 a = none := fun a h1 => by
                            by_cases c : a = qq
                            · rw [c]; exact (sl2.free w qq qw).2.1
                            · cases y1 : Hs2 a with
                              | none => rfl
                              | some oo =>
                                have z := r2.gr.ap a (by rw [y1]; simp) (by rw [F1y a h1 c]; exact (inO a h1).2.2)
                                exact absurd (inO a h1).2.1 (ex_some r1.gr.s z)
                          have there : ∀ a, a ∈ pp :: ps → H2 a ≠ none := fun a h1 => by
                            by_cases c : a = qq
                            · rw [c]; exact (sl2.free w qq qw).2.2
                            · rw [keepH a h1 c]; exact (inO a h1).2.2
                          have apart : ∀ k a, k ≠ w → a ∈ fp2 k → a ∉ pp :: ps := fun k a hk ha z => by
                            by_cases c : a = qq
                            · rw [c] at ha; exact hk (sl2.sep k w qq ha qw)
                            · have := (sl2.free k a ha).1
                              rw [F1y a z c] at this
                              exact (inO a z).2.2 this
                          refine p1 σ2 Hs2 H2 ⟨by rw [List.length_set, List.length_set]; exact r2.len, ⟨fun a o z => ?_, r2.gr.s, r2.gr.sh, fun a z1 z2 => ?_⟩, fun k => if k = i then pp :: ps else if k = w then [] else fp2 k, fun k s' e8 => ?_, fun k a ha => ?_, fun k l a h3 h4 => ?_, fun k => ?_⟩ ex2 fun k hk => ?_
                          · have na : a ∉ pp :: ps := fun y => by rw [(inO a y).1] at z; cases z
                            exact r2.gr.h a o (by rw [F1n a na]; exact z)
                          · have na : a ∉ pp :: ps := fun y => z2 (inO a y).1
                            exact r2.gr.ap a z1 (by rw [F1n a na]; exact z2)
                          · by_cases hki : k = i
                            · subst hki
                              rw [List.getElem?_set_ne (Ne.symm iw), List.getElem?_set_self ri] at e8
                              cases e8
                              refine ⟨.ref pp, ei, pp, ps, rfl, if_pos rfl, by rw [keepH pp List.mem_cons_self pq]; exact b1, ?_⟩
                              exact paired_put b2 e4 ndp.2 (fun a b ha na ⟨vs, d1, d2⟩ => ⟨vs, by rw [keepH a (List.mem_cons_of_mem _ ha) na]; exact d1, IsAll.mono ex2 b d2⟩) ⟨vs2, c1, c2⟩
                            · by_cases hk : k = w
                              · subst hk
                                rw [List.getElem?_set_self (by rw [List.length_set]; exact (List.getElem?_eq_some_iff.mp hy2).1)] at e8
                                cases e8
                              · rw [List.getElem?_set_ne (Ne.symm hk), List.getElem?_set_ne (Ne.symm hki)] at e8
                                obtain ⟨u', e9, o⟩ := sl2.own k s' e8
                                refine ⟨u', e9, ?_⟩
                                rw [if_neg hki, if_neg hk]; exact o
                          · by_cases hki : k = i
                            · rw [if_pos hki] at ha
                              exact ⟨(inO a ha).1, stab a ha, there a ha⟩
                            · rw [if_neg hki] at ha
                              by_cases hk : k = w
                              · rw [if_pos hk] at ha; cases ha
                              · rw [if_neg hk] at ha
                                obtain ⟨d1, d2, d3⟩ := sl2.free k a ha
                                rw [F1n a (apart k a hk ha)] at d1
                                exact ⟨d1, d2, d3⟩
                          · have key : ∀ k, a ∈ (if k = i then pp :: ps else if k = w then [] else fp2 k) → (k = i ∧ a ∈ pp :: ps) ∨ (k ≠ w ∧ a ∈ fp2 k) := fun k ha => by
                              by_cases hki : k = i
                              · rw [if_pos hki] at ha; exact .inl ⟨hki, ha⟩
                              · rw [if_neg hki] at ha
                                by_cases hk : k = w
                                · rw [if_pos hk] at ha; cases ha
                                · rw [if_neg hk] at ha; exact .inr ⟨hk, ha⟩
                            rcases key k h3 with ⟨a1, a2⟩ | ⟨a1, a2⟩
                            · rcases key l h4 with ⟨d1, d2⟩ | ⟨d1, d2⟩
                              · rw [a1, d1]
                              · exact absurd a2 (apart l a d1 d2)
                            · rcases key l h4 with ⟨d1, d2⟩ | ⟨d1, d2⟩
                              · exact absurd d2 (apart k a a1 a2)
                              · exact sl2.sep k l a a2 d2
                          · show (if k = i then pp :: ps else if k = w then [] else fp2 k).Nodup
                            split
                            · exact nd
                            · split
                              · exact List.nodup_nil
                              · exact sl2.nd k
                          · have h1 : k ∉ asg := fun z => hk (List.mem_cons_of_mem _ (List.mem_cons_of_mem _ (List.mem_append_left _ z)))
                            have h3 : k ≠ w := fun z => hk (by rw [z]; exact List.mem_cons_of_mem _ List.mem_cons_self)
                            rw [k2 k h1, List.getElem?_set_ne (Ne.symm h3)]
                        | _ => rw [hy2] at p1; exact p1.elim
          | _ => exact p1.elim
        | _ => rw [q] at p; exact p.elim
  · have e : kLend i w g f ρ ρ[i]? = .ok (.next ρ') := e
    cases q : ρ[i]? with
    | none => rw [q] at e; cases e
    | some o =>
      cases o with
      | none => rw [q] at e; cases e
      | some s =>
        cases s with
        | ll xss =>
          rw [q] at e
          obtain ⟨z, _, e⟩ := bind_next e
          cases z with
          | int n =>
            have e : kLendB i w f ρ xss (ixN xss.length n) = .ok (.next ρ') := e
            cases hj : ixN xss.length n with
            | none => rw [hj] at e; cases e
            | some j =>
              rw [hj] at e
              have e : kLendC i w f ρ xss j xss[j]? = .ok (.next ρ') := e
              cases hx : xss[j]? with
              | none => rw [hx] at e; cases e
              | some xs =>
                rw [hx] at e
                have e : guard' (w < ρ.length) (kLendD i w xss j (f ((ρ.set i none).set w (some (.l xs))))) = .ok (.next ρ') := e
                unfold guard' at e
                split at e
                · cases hr : f ((ρ.set i none).set w (some (.l xs))) with
                  | exc c p' => rw [hr] at e; cases e
                  | stuck => rw [hr] at e; cases e
                  | ok res =>
                    cases res with
                    | ret s => rw [hr] at e; cases e
                    | next ρ2 =>
                      rw [hr] at e
                      have e : kLendE i w xss j ρ2 ρ2[w]? = .ok (.next ρ') := e
                      have h1 : k ≠ i := fun z => hk (by rw [z]; exact List.mem_cons_self)
                      have h3 : k ≠ w := fun z => hk (by rw [z]; exact List.mem_cons_of_mem _ List.mem_cons_self)
                      have h4 : k ∉ asgr := fun z => hk (List.mem_cons_of_mem _ (List.mem_cons_of_mem _ (List.mem_append_right _ z)))
                      have fx := h2.fix _ ρ2 hr k h4
                      rw [List.getElem?_set_ne (Ne.symm h3), List.getElem?_set_ne (Ne.symm h1)] at fx
                      cases hy2 : ρ2[w]? with
                      | none => rw [hy2] at e; cases e
                      | some o2 =>
                        cases o2 with
                        | none => rw [hy2] at e; cases e
                        | some s2 =>
                          cases s2 with
                          | l ys =>
                            rw [hy2] at e
                            cases e
                            rw [List.getElem?_set_ne (Ne.symm h3), List.getElem?_set_ne (Ne.symm h1)]
                            exact fx
                          | _ => rw [hy2] at e; cases e
                · cases e
          | _ => cases e
        | _ => rw [q] at e; cases e
end
end G

set_option Elab.async false
set_option linter.all false
set_option maxRecDepth 100000
set_option maxHeartbeats 4000000
namespace G
open PySem PySem.Spec PyProof.Rows L2
open Evl (Ex ex_l ex_t ex_rd)
/-! ### objects of one's own: fields -/
def putFD (f : Str) (d : D) : List (Str × D) → List (Str × D)
  | [] => [(f, d)]
  | (g, x) :: r => if g = f then (g, d) :: r else (g, x) :: putFD f d r
section
variable {K : PySem.W.Frag} {mg : Str → Option Value} {F Gs Hs H : Hp} {σ : L2.St} {ρ : Env}
theorem Flds.put {f : Str} {d : D} {v : V} (hd : Is K H d v) : ∀ {fs : List (Str × D)} {vs : List (Str × V)}, Flds K H fs vs → Flds K H (putFD f d fs) (putF f v vs)
  | [], _, h => by
    rw [show _ = [] from h]
    exact ⟨v, [], rfl, hd, rfl⟩
  | (g, x) :: r, _, ⟨u, us, e, h1, h2⟩ => by
    subst e
    by_cases q : g = f
    · show Flds K H (if g = f then _ else _) (if g = f then _ else _)
      rw [if_pos q, if_pos q]
      exact ⟨v, us, rfl, hd, h2⟩
    · show Flds K H (if g = f then _ else _) (if g = f then _ else _)
      rw [if_neg q, if_neg q]
      exact ⟨u, _, rfl, h1, Flds.put hd h2⟩
theorem Flds.len : ∀ {fs : List (Str × D)} {vs : List (Str × V)}, Flds K H fs vs → vs.length = fs.length
  | [], _, h => by rw [show _ = [] from h]; rfl
  | (g, x) :: r, _, ⟨u, us, e, h1, h2⟩ => by rw [e, List.length_cons, List.length_cons, Flds.len h2]
theorem Rep.putM {i : Nat} {c : Str} {fs fs' : List (Str × D)} (r : Rep K mg F Gs Hs H σ ρ) (e : ρ[i]? = some (some (.m c fs))) :
    ∃ p C dx vs, σ[i]? = some (some (.ref p)) ∧ mg c = some (.ref C) ∧ H p = some (.ins C dx vs) ∧ Hs p = none ∧ F p = none ∧ Flds K Hs fs vs ∧ ∀ vs', Flds K Hs fs' vs' → Rep K mg F Gs Hs (upd H p (.ins C dx vs')) σ (ρ.set i (some (.m c fs'))) := by
  obtain ⟨fp, sl⟩ := r.sl
  obtain ⟨v, e1, p, C, dx, vs, rfl, e3, hC, h1, h2⟩ := sl.own i _ e
  have pm : p ∈ fp i := by rw [e3]; simp
  obtain ⟨f1, f2, f3⟩ := sl.free i p pm
  refine ⟨p, C, dx, vs, e1, hC, h1, f2, f1, h2, fun vs' h' => ⟨by rw [List.length_set]; exact r.len, ⟨Ex.mut r.gr.h f1, r.gr.s, fun a o q => ?_, r.gr.ap⟩, fp, fun j s' e4 => ?_, fun j q hq => ?_, sl.sep, sl.nd⟩⟩
  · rw [upd_ne fun z => by rw [z, f2] at q; cases q]
    exact r.gr.sh a o q
  · by_cases hj : j = i
    · subst hj
      have hl : j < ρ.length := (List.getElem?_eq_some_iff.mp e).1
      rw [List.getElem?_set_self hl] at e4
      cases e4
      exact ⟨_, e1, p, C, dx, vs', rfl, e3, hC, upd_same, h'⟩
    · rw [List.getElem?_set_ne (Ne.symm hj)] at e4
      obtain ⟨u, e5, o⟩ := sl.own j s' e4
      exact ⟨u, e5, o.frame fun z => hj (sl.sep j i p z pm)⟩
  · obtain ⟨a1, a2, a3⟩ := sl.free j q hq
    refine ⟨a1, a2, ?_⟩
    by_cases hb : q = p
    · rw [hb, upd_same]; simp
    · rw [upd_ne hb]; exact a3
end
section
variable {X : Cx} {W : WX} {e a b c : Expr} {es : List Expr} {pos p1 apos q1 : Pos} {x : Str} {k n : Nat}
def kFldM (c f : Str) : Option (Option S) → Out D
  | some (some (.m c' fs)) => guard' (c' = c) (oOf (fs.lookup f))
  | _ => .stuck
def dFldM (i : Nat) (c f : Str) : Env → Out D := fun ρ => kFldM c f ρ[i]?
theorem hd_fldM (i : Nat) {cn f : Str} {C : Addr} (T : CF X.K X.mg cn C) (na : NoAttr X.K C f) (hN : X.N[i]? = some x := by rfl) (hv : Vis X.env.scope x := by first | exact Or.inl rfl | exact Or.inr (Or.inl rfl) | exact Or.inr (Or.inr rfl)) (hd : (x == ("__debug__" : Str)) = false := by decide)
    (hcd : (x == ("__classdict__" : Str)) = false := by decide) (hb : attributeBase (.Name x p1) f X.env (eval (.Name x p1) X.env) = eval (.Name x p1) X.env := by rfl) : HD X W (.Attribute (.Name x p1) f pos) (dFldM i cn f) :=
  ⟨PE.imp (pe_fld (pe_var hN hv hd hcd) hb) fun σ H Q ⟨F, Gs, Hs, ρ, r, p⟩ => by
    unfold dFldM kFldM at p
    split at p
    · rename_i c' fs e
      obtain ⟨hc, p2⟩ := guard_ok p
      clear p
      subst hc
      obtain ⟨d, hl, p⟩ := oOf_ok p2
      obtain ⟨fp, sl⟩ := r.sl
      obtain ⟨v, e1, a, C', dx, vs, rfl, _, hC, hH, hF⟩ := sl.own i _ e
      rw [T.g] at hC
      cases hC
      obtain ⟨u, hu, hi⟩ := hF.get hl
      exact ⟨.ref a, e1, a, C, dx, vs, u, rfl, hH, T.cl, na, hu, p.now r.sh hi⟩
    · exact p.elim⟩
def kFset (i : Nat) (c f : Str) (ρ : Env) (d : D) : Option (Option S) → Out Res
  | some (some (.m c' fs)) => guard' (c' = c ∧ fs.length < 1000) (.ok (.next (ρ.set i (some (.m c' (putFD f d fs))))))
  | _ => .stuck
def kFset0 (i : Nat) (c f : Str) (ρ : Env) (d : D) : Out Res := kFset i c f ρ d ρ[i]?
def sFset (i : Nat) (c f : Str) (g : Env → Out D) : Env → Out Res := fun ρ => (g ρ).bind (kFset0 i c f ρ)
theorem hs_fset (i : Nat) {cn f : Str} {C : Addr} {g : Env → Out D} (T : CF X.K X.mg cn C) (na : NoAttr X.K C f) (he : HD X W e g) (hN : X.N[i]? = some x := by rfl) (hv : Vis X.env.scope x := by first | exact Or.inl rfl | exact Or.inr (Or.inl rfl) | exact Or.inr (Or.inr rfl)) (hd : (x == ("__debug__" : Str)) = false := by decide)
    (hcd : (x == ("__classdict__" : Str)) = false := by decide) (hs : swapsWith e (some (.Attribute (.Name x p1) f q1)) pos.line X.env = pure false := by rfl) : HS1 X W (.Assign [.Attribute (.Name x p1) f q1] e pos) [] (sFset i cn f g) :=
  ⟨PS.imp (ps_fld (pe_var hN hv hd hcd) he.pe hs) fun D σ H ⟨F, Gs, Hs, ρ, r, p⟩ => ⟨F, Gs, Hs, ρ, r, (postS_seq r p).imp fun v H1 ⟨Hs1, d, g1, h1, p1⟩ => by
    have h1 : Is _ _ _ _ := h1
    have p1 : PostS X.K X.mg W [] F Gs Hs1 σ (kFset i cn f ρ d ρ[i]?) D := p1
    unfold kFset at p1
    split at p1
    · rename_i c' fs eq
      obtain ⟨⟨hc, hl⟩, p2⟩ := guard_okS p1
      clear p1
      subst hc
      obtain ⟨p, C', dx, vs, e1, hC, hH, a1, a2, hF, up⟩ := (r.grow g1).putM (fs' := putFD f d fs) eq
      rw [T.g] at hC
      cases hC
      exact ⟨.ref p, e1, p, C, dx, vs, rfl, hH, T.cl, na, by rw [hF.len]; exact hl, p2 σ Hs1 _ (up _ (hF.put h1)) (Ex.refl _) fun _ _ => rfl⟩
    · exact p1.elim⟩, fun ρ ρ' e j _ => by
    obtain ⟨d, _, e⟩ := bind_next e
    have e : kFset i cn f ρ d ρ[i]? = .ok (.next ρ') := e
    unfold kFset at e
    split at e
    · rename_i c' fs eq
      obtain ⟨_, e⟩ := guard_eq e
      cases e
      by_cases hj : j = i
      · subst hj
        rw [List.getElem?_set_self (List.getElem?_eq_some_iff.mp eq).1, eq]; rfl
      · rw [List.getElem?_set_ne (Ne.symm hj)]
    · cases e⟩
/-- a method that only looks at the object -/
def kMethS (c m : Str) (mm : List S → Out S) : Option (Option S) → Out D
  | some (some (.m c' fs)) => guard' (c' = c ∧ fs.lookup m = none) ((mm [.o c' fs]).bind scS)
  | _ => .stuck
def dMethS (i : Nat) (c m : Str) (mm : List S → Out S) : Env → Out D := fun ρ => kMethS c m mm ρ[i]?
theorem hd_methS (i : Nat) {cn m : Str} {mm : List S → Out S} {pl : Sem Bool} (c : MCallee X.prog X.w X.K X.mg X.base cn m k 1 mm) (hr : Room k X.A) (tk : Takes X W)
    (hN : X.N[i]? = some x := by rfl) (hv : Vis X.env.scope x := by first | exact Or.inl rfl | exact Or.inr (Or.inl rfl) | exact Or.inr (Or.inr rfl)) (hd : (x == ("__debug__" : Str)) = false := by decide) (hcd : (x == ("__classdict__" : Str)) = false := by decide)
    (ht : eval (.Call (.Attribute (.Name x p1) m apos) [] [] pos) X.env = (do
      let ov ← eval (.Name x p1) X.env
      standAt apos.atName
      let (f, first) ← holding [ov] (getMethod ov m pl)
      callWith pos f first (backTo pos (starEach [] X.env)) (backToKw pos (keywordEach [] X.env))) := by rfl) : HD X W (.Call (.Attribute (.Name x p1) m apos) [] [] pos) (dMethS i cn m mm) := by
  obtain ⟨C, f, fd, ps, T, hm, F, hb, hn⟩ := c
  refine ⟨PE.imp (pe_methE0 (pe_var hN hv hd hcd) T.cl hm F hr hb (fun σ => passAt tk σ) ht) fun σ H Q ⟨F', Gs, Hs, ρ, r, p⟩ => ?_⟩
  unfold dMethS kMethS at p
  split at p
  · rename_i c' fs e
    obtain ⟨⟨hc, hl⟩, p2⟩ := guard_ok p
    clear p
    subst hc
    obtain ⟨fp, sl⟩ := id r.sl
    obtain ⟨v, e1, a, C', dx, vs, rfl, _, hC, hH, hF⟩ := sl.own i _ e
    rw [T.g] at hC
    cases hC
    refine ⟨.ref a, e1, a, dx, vs, rfl, hH, hF.no hl, ?_⟩
    refine ⟨H, [.o c' fs], Ex.refl _, ⟨.ref a, [], rfl, ⟨rfl, a, C, dx, vs, rfl, T.g, hH, hF.mono r.sh⟩, rfl⟩, rfl, ?_⟩
    cases q : mm [.o c' fs] with
    | ok s =>
      rw [q] at p2
      intro v Hs' H' g' hs'
      cases s with
      | d d =>
        have p2 : Post (RD X.K) X.mg W σ Hs H (scD d) Q := p2
        have h : Is _ _ _ _ := hs'.is
        have gw : Grow Hs H Hs H' := Grow.whole r.sh g'.h
        cases d with
        | non => simp only [Is] at h; subst h; exact p2.later gw isN
        | bl b => simp only [Is] at h; subst h; exact p2.later gw isB
        | int b => simp only [Is] at h; subst h; exact p2.later gw isI
        | str b => simp only [Is] at h; subst h; exact p2.later gw isS
        | _ => exact p2.elim
      | _ => exact p2.elim
    | exc c p' =>
      rw [q] at p2
      exact fun cls d Hs' H' g' h' => p2 cls d Hs H' (Grow.whole r.sh g'.h) h'
    | stuck => rw [q] at p2; exact p2
  · exact p.elim
/-- an object is made, and stays one's own -/
def kMkM (c : Str) (fs : List (Str × D)) : Out S := .ok (.m c fs)
def kMakeM (c : Str) (n : Nat) (mi : List S → Out (List (Str × D))) (ss : List S) : Out S := guard' (ss.length = n) ((noX (mi ss)).bind (kMkM c))
theorem he_makeM {cn : Str} {mi : List S → Out (List (Str × D))} {g : Env → Out (List S)} (c : ICallee X.prog X.w X.K X.mg X.base cn k n mi) (hr : Room (k + 1) X.A) (ha : HAS X W (e :: es) g) (hg : Gl X cn := by rfl) (hdb : (cn == ("__debug__" : Str)) = false := by decide)
    (hs : starEach (e :: es) X.env = (false, eval e X.env) :: starEach es X.env := by rfl) (hpl : (backTo pos (starEach es X.env)).any (·.1) = false := by rfl) : HE X W (.Call (.Name cn p1) (e :: es) [] pos) (dA (kMakeM cn n mi) g) := by
  obtain ⟨C, f, fd, ps, T, M, F, hb, hn⟩ := c
  refine ⟨PE.imp (pe_make (dvs := []) M F hr hg T.g hb .nil (pass_no rfl rfl) ha.pa hdb hs hpl) fun σ H Q ⟨F', Gs, Hs, ρ, r, p⟩ => ⟨F', Gs, Hs, ρ, r, (Post.seq anti_E p).imp fun vs H1 ⟨Hs1, ss, g1, h1, p1⟩ => ?_⟩⟩
  intro y dx hy hdx hne
  obtain ⟨hl, p1⟩ := guard_ok p1
  rcases noX_is (r := mi ss) with ⟨fs, e1, e2⟩ | e2
  · rw [e2] at p1
    have hsy : Hs1 y = none := none_of_ex g1.sh hy
    have up : ∀ a o, H1 a = some o → (upd (upd H1 dx (.own y)) y (.ins C dx [])) a = some o := fun a o ea => by
      rw [upd_ne (by rintro rfl; rw [hy] at ea; cases ea), upd_ne (by rintro rfl; rw [hdx] at ea; cases ea)]; exact ea
    refine ⟨y, dx, vs, Hs1, ss, fs, by rw [List.append_nil], upd_same, hsy, fun a o ea => up a o (g1.sh _ _ ea), h1, hl, e1, fun vs' Hs' H' G' n' i' f' => ⟨rfl, ?_⟩⟩
    refine p1 (.ref y) Hs' H' ⟨fun a o ea => G'.h a o (by rintro rfl; rw [hy] at ea; cases ea) (up a o ea), G'.s, G'.sh, fun a ha1 ha2 => G'.ap a ha1 ?_⟩ ⟨[y], ⟨y, C, dx, vs', rfl, rfl, T.g, i', f'⟩, fun q hq => ?_, by simp⟩
    · cases z : H1 a with
      | none => exact absurd z ha2
      | some o => rw [up a o z]; simp
    · rw [List.mem_singleton.mp hq]; exact ⟨hy, n'⟩
  · rw [e2] at p1; exact p1.elim
end
section
variable {P : Program} {w : World} {K : PySem.W.Frag} {mg : Str → Option Value} {base : Heap}
/-- __init__: self.f1 = e1; self.f2 = e2 -/
def initF (n : Nat) (fl : Env → Out (List (Str × D))) (ss : List S) : Out (List (Str × D)) := guard' (allDb (startI n ss) = true) (fl (startI n ss))
theorem okIF {x qual : Str} {st : Stmt} {f : Addr} {fd : FuncData} {N ps : List Str} {kk n : Nat} {C : Addr} {x0 f1 f2 : Str} {e1 e2 : Expr} {p1 q1 r1 p2 q2 r2 : Pos} {g1 g2 : Env → Out D} (F : Fun K x qual st f fd) (S' : FnScope N ps (defScope st)) (hps : ps.length = n + 1) (hN : 1 ≤ N.length)
    (hbody : defBody st = [.Assign [.Attribute (.Name x0 p1) f1 q1] e1 r1, .Assign [.Attribute (.Name x0 p2) f2 q2] e2 r2]) (cl : Cls K C) (n1 : NoAttr K C f1) (n2 : NoAttr K C f2) (hne : ¬ f1 = f2)
    (hb : ∀ (cdv : Value) (A : Around) (outer : List PySem.Env) (s : Shared) (H : Hp) (E : XK), Room kk (A.deeper (envOfC qual (defScope st) s.heap.objs.size f cdv)) →
      HD (cxOf (L2.CX P w) P w K mg base N qual (defScope st) f cdv A outer s H E) W0 e1 g1 ∧ HD (cxOf (L2.CX P w) P w K mg base N qual (defScope st) f cdv A outer s H E) W0 e2 g2 ∧ (cxOf (L2.CX P w) P w K mg base N qual (defScope st) f cdv A outer s H E).N[0]? = some x0 ∧ Vis (cxOf (L2.CX P w) P w K mg base N qual (defScope st) f cdv A outer s H E).env.scope x0 ∧ (x0 == ("__debug__" : Str)) = false ∧ (x0 == ("__classdict__" : Str)) = false ∧ swapsWith e1 (some (.Attribute (.Name x0 p1) f1 q1)) r1.line (cxOf (L2.CX P w) P w K mg base N qual (defScope st) f cdv A outer s H E).env = pure false ∧ swapsWith e2 (some (.Attribute (.Name x0 p2) f2 q2)) r2.line (cxOf (L2.CX P w) P w K mg base N qual (defScope st) f cdv A outer s H E).env = pure false) :
    FnOk P w K mg base (L2.CX P w) (kk + 1) f fd ps (spI K mg C n (initF N.length (flds2 f1 f2 g1 g2))) := by
  refine okI F S' hps hN fun cdv A outer s H E hr => ?_
  obtain ⟨d1, d2, a1, a2, a3, a4, a5, a6⟩ := hb cdv A outer s H E hr
  rw [hbody]
  refine PSs.imp (pss_flds2 (C := C) d1 d2 cl n1 n2 hne a1 a2 a3 a4 a5 a6) fun D σ H ⟨y, dx, Hs, ss, fs, e, hy, hsy, r, hl, hm, q⟩ => ?_
  unfold initF at hm
  obtain ⟨z3, hm⟩ := guard_eq hm
  exact ⟨y, dx, Hs, _, fs, e, hy, hsy, r, allDb_ok z3, hm, fun vs' Hs' H' G' b c d => q σ vs' Hs' H' G' b c d⟩
end
end G

set_option Elab.async false
set_option linter.all false
set_option maxRecDepth 100000
set_option maxHeartbeats 4000000
namespace G
open PySem PySem.Spec PyProof.Rows L2
open Evl (Ex ex_l ex_t ex_rd)
/-! ### methods that change their object -/
def remH (H : Hp) (p : Addr) : Hp := fun a => if a = p then none else H a
theorem remH_ne {H : Hp} {p a : Addr} (h : a ≠ p) : remH H p a = H a := if_neg h
theorem remH_same {H : Hp} {p : Addr} : remH H p p = none := if_pos rfl
/-- a body that ends with a return: the last slots are kept -/
def PostR (K : PySem.W.Frag) (mg : Str → Option Value) (W : WX) (F Gs Hs : Hp) (σ : L2.St) (r : Out (Env × D)) (D : Ends) : Prop := match r with
  | .ok x => ∀ v σ' Hs' H', Rep K mg F Gs Hs' H' σ' x.1 → σ'[0]? = σ[0]? → Is K Hs' x.2 v → D.rt v H'
  | .exc c p => ∀ cls d σ' Hs' H', Grow Gs F Hs' H' → XIs mg H' c p cls d → W cls d σ' H'
  | .stuck => False
def tR (K : PySem.W.Frag) (mg : Str → Option Value) (W : WX) (f : Env → Out (Env × D)) : TS := fun D σ H => ∃ F Gs Hs ρ, Rep K mg F Gs Hs H σ ρ ∧ PostR K mg W F Gs Hs σ (f ρ) D
structure HR (X : Cx) (W : WX) (sts : List Stmt) (f : Env → Out (Env × D)) : Prop where
  pss : PSs X sts (tR X.K X.mg W f)
def kRSeq (g : Env → Out (Env × D)) : Res → Out (Env × D)
  | .next ρ' => g ρ'
  | .ret _ => .stuck
def rSeq (f : Env → Out Res) (g : Env → Out (Env × D)) : Env → Out (Env × D) := fun ρ => (f ρ).bind (kRSeq g)
def kRRet (ρ : Env) (d : D) : Out (Env × D) := .ok (ρ, d)
def rRet (f : Env → Out D) : Env → Out (Env × D) := fun ρ => (f ρ).bind (kRRet ρ)
section
variable {X : Cx} {W : WX} {e a b c : Expr} {es : List Expr} {pos p1 apos q1 : Pos} {x : Str} {k n : Nat} {st : Stmt} {rest : List Stmt} {asg : List Nat}
theorem hr_cons {f : Env → Out Res} {g : Env → Out (Env × D)} (h1 : HS1 X W st asg f) (h2 : HR X W rest g) (h0 : 0 ∉ asg) : HR X W (st :: rest) (rSeq f g) := by
  refine ⟨PSs.imp (pss_cons h1.ps h2.pss) fun D σ H ⟨F, Gs, Hs, ρ, r, p⟩ => ⟨F, Gs, Hs, ρ, r, ?_⟩⟩
  unfold rSeq at p
  cases q : f ρ with
  | ok r1 =>
    rw [q] at p
    cases r1 with
    | next ρ1 =>
      intro σ1 Hs1 H1 r1 e1 k1
      refine ⟨F, Gs, Hs1, ρ1, r1, ?_⟩
      have p : PostR X.K X.mg W F Gs Hs σ (g ρ1) D := p
      cases q2 : g ρ1 with
      | ok r2 => rw [q2] at p; exact fun v σ' Hs' H' r' z i => p v σ' Hs' H' r' (z.trans (k1 0 h0)) i
      | exc c p' => rw [q2] at p; exact p
      | stuck => rw [q2] at p; exact p
    | ret s => exact p.elim
  | exc c p' => rw [q] at p; exact p
  | stuck => rw [q] at p; exact p
theorem hr_frz (i : Nat) {sts : List Stmt} {f : Env → Out (Env × D)} (h : HR X W sts f) : HR X W sts (fun ρ => f (frzE ρ i)) :=
  ⟨PSs.imp h.pss fun D σ H ⟨F, Gs, Hs, ρ, r, p⟩ => by
    obtain ⟨Hs', e, r'⟩ := r.frz i
    refine ⟨F, Gs, Hs', frzE ρ i, r', ?_⟩
    have p : PostR X.K X.mg W F Gs Hs σ (f (frzE ρ i)) D := p
    cases q : f (frzE ρ i) with
    | ok x => rw [q] at p; exact p
    | exc c p' => rw [q] at p; exact p
    | stuck => rw [q] at p; exact p⟩
theorem hr_ret {f : Env → Out D} (he : HD X W e f) : HR X W [.Return (some e) pos] (rRet f) :=
  ⟨PSs.imp (pss_one (ps_ret he.pe)) fun D σ H ⟨F, Gs, Hs, ρ, r, p⟩ => ⟨F, Gs, Hs, ρ, r, by
    unfold rRet at p
    cases q : f ρ with
    | ok d => rw [q] at p; exact fun v Hs' H' g h => p v σ Hs' H' (r.grow g) rfl h
    | exc c p' => rw [q] at p; exact fun cls d Hs' H' g h => p cls d σ Hs' H' (r.gr.trans g) h
    | stuck => rw [q] at p; exact p⟩⟩
end
/-- what a method that changes its object hands back -/
def PrM (K : PySem.W.Frag) (mg : Str → Option Value) (C p : Addr) (Hs H : Hp) (Q : VK) (E : XK) : Out (List (Str × D) × D) → Prop
  | .ok x => ∀ v dx' fv' Hs' H', Grow Hs (remH H p) Hs' H' → Hs' p = none → H' p = some (.ins C dx' fv') → Flds K Hs' x.1 fv' → Is K Hs' x.2 v → Q v H'
  | .exc c' p' => ∀ cls d Hs' H', Grow Hs (remH H p) Hs' H' → XIs mg H' c' p' cls d → E cls d H'
  | .stuck => False
/-- the promise of a method that changes its object -/
def spM (K : PySem.W.Frag) (mg : Str → Option Value) (c : Str) (mm : List (Str × D) → Out (List (Str × D) × D)) : Sp := fun vs H Q E => ∃ p C dx fv Hs fs, vs = [V.ref p] ∧ mg c = some (.ref C) ∧ H p = some (.ins C dx fv) ∧ Hs p = none ∧ Ex Hs H ∧ Flds K Hs fs fv ∧ PrM K mg C p Hs H Q E (mm fs)
def kRunM (c : Str) (d : D) : Option (Option S) → Out (List (Str × D) × D)
  | some (some (.m c' fs)) => guard' (c' = c) (.ok (fs, d))
  | _ => .stuck
def kRunM0 (c : Str) (x : Env × D) : Out (List (Str × D) × D) := kRunM c x.2 x.1[0]?
def runM (n : Nat) (c : Str) (den : Env → Out (Env × D)) (fs : List (Str × D)) : Out (List (Str × D) × D) := (den (startE n [.m c fs])).bind (kRunM0 c)
section
variable {P : Program} {w : World} {K : PySem.W.Frag} {mg : Str → Option Value} {base : Heap}
theorem rep_startM {Hs H : Hp} {N : List Str} {c : Str} {fs : List (Str × D)} {fv : List (Str × V)} {p C dx : Addr} (e : Ex Hs H) (hC : mg c = some (.ref C)) (hp : H p = some (.ins C dx fv)) (hs : Hs p = none) (hf : Flds K Hs fs fv) (hN : 1 ≤ N.length) :
    Rep K mg (remH H p) Hs Hs H (start N [V.ref p]) (startE N.length [.m c fs]) := by
  refine ⟨?_, ⟨fun a o z => ?_, Ex.refl _, e, fun _ h _ => h⟩, fun i => if i = 0 then [p] else [], fun i s q => ?_, fun i a ha => ?_, fun i j a h1 h2 => ?_, fun i => ?_⟩
  · unfold L2.start startE
    rw [List.length_append, List.length_append, List.length_map, List.length_map, List.length_replicate, List.length_replicate]
    rfl
  · unfold remH at z
    split at z
    · cases z
    · exact z
  · unfold startE at q
    unfold L2.start
    cases i with
    | zero =>
      have q : some (some (S.m c fs)) = some (some s) := q
      cases q
      exact ⟨.ref p, rfl, p, C, dx, fv, rfl, rfl, hC, hp, hf⟩
    | succ i =>
      have q : (List.replicate (N.length - 1) none)[i]? = some (some s) := q
      have := List.mem_of_getElem? q
      rw [List.mem_replicate] at this
      exact nomatch this.2
  · by_cases h : i = 0
    · rw [if_pos h] at ha
      rw [List.mem_singleton.mp ha]
      exact ⟨remH_same, hs, by rw [hp]; simp⟩
    · rw [if_neg h] at ha; cases ha
  · have : ∀ i, a ∈ (if i = 0 then [p] else []) → i = 0 := fun i hi => by
      by_cases h : i = 0
      · exact h
      · rw [if_neg h] at hi; cases hi
    rw [this i h1, this j h2]
  · show (if i = 0 then [p] else []).Nodup
    split
    · simp
    · exact List.nodup_nil
/-- THE RULE for such a method (of no arguments but the object) -/
theorem okM {x qual : Str} {st : Stmt} {f : Addr} {fd : FuncData} {N ps : List Str} {k : Nat} {c : Str} {den : Env → Out (Env × D)} (F : Fun K x qual st f fd) (S' : FnScope N ps (defScope st)) (hps : ps.length = 1) (hN : 1 ≤ N.length)
    (hb : ∀ (cdv : Value) (A : Around) (outer : List PySem.Env) (s : Shared) (H : Hp) (E : XK), Takes (cxOf (L2.CX P w) P w K mg base N qual (defScope st) f cdv A outer s H E) (fun c d _ H' => E c d H') →
      PassesOwn (model P w) (A.deeper (envOfC qual (defScope st) s.heap.objs.size f cdv)) (envOfC qual (defScope st) s.heap.objs.size f cdv) (cxOf (L2.CX P w) P w K mg base N qual (defScope st) f cdv A outer s H E).xe →
      Room k (A.deeper (envOfC qual (defScope st) s.heap.objs.size f cdv)) → HR (cxOf (L2.CX P w) P w K mg base N qual (defScope st) f cdv A outer s H E) (fun c d _ H' => E c d H') (defBody st) den) :
    FnOk P w K mg base (L2.CX P w) (k + 1) f fd ps (spM K mg c (runM N.length c den)) := by
  refine F.okX S' (fun vs H Q E h => ?_) (fun cdv A outer s H vs Q E hr h => ?_)
  · obtain ⟨p, C, dx, fv, Hs, fs, rfl, _⟩ := h
    rw [hps]; rfl
  · obtain ⟨p, C, dx, fv, Hs, fs, rfl, hC, hp, hs, e, hf, q⟩ := h
    refine ⟨_, (hb cdv A outer s H E (takes_of rfl rfl rfl rfl) (passes_of rfl) hr).pss, ?_⟩
    refine ⟨remH H p, Hs, Hs, startE N.length [.m c fs], rep_startM e hC hp hs hf hN, ?_⟩
    unfold runM at q
    cases z : den (startE N.length [.m c fs]) with
    | ok y =>
      rw [z] at q
      have q2 : PrM K mg C p Hs H Q E (kRunM c y.2 y.1[0]?) := q
      clear q
      intro v σ' Hs' H' r' z0 hi
      have r' : Rep K mg (remH H p) Hs Hs' H' σ' y.1 := r'
      cases y0 : y.1[0]? with
      | none => rw [y0] at q2; exact q2.elim
      | some o =>
        cases o with
        | none => rw [y0] at q2; exact q2.elim
        | some s =>
          cases s with
          | m c' fs' =>
            rw [y0] at q2
            by_cases hc : c' = c
            · have ek : kRunM c y.2 (some (some (.m c' fs'))) = .ok (fs', y.2) := if_pos hc
              rw [ek] at q2
              subst hc
              obtain ⟨fp, sl⟩ := id r'.sl
              obtain ⟨u, e1, p', C', dx', fv', rfl, e3, hC', hH', hF'⟩ := sl.own 0 _ y0
              rw [z0] at e1
              have e1 : some (some (V.ref p)) = some (some (V.ref p')) := e1
              cases e1
              rw [hC] at hC'
              cases hC'
              exact q2 v dx' fv' Hs' H' r'.gr (sl.free 0 p (by rw [e3]; simp)).2.1 hH' hF' hi
            · have ek : kRunM c y.2 (some (some (.m c' fs'))) = .stuck := if_neg hc
              rw [ek] at q2
              exact q2.elim
          | _ => rw [y0] at q2; exact q2.elim
    | exc c' p' =>
      rw [z] at q
      exact fun cls d σ' Hs' H' g h => q cls d Hs' H' g h
    | stuck => rw [z] at q; exact q.elim
end
def OCallee (P : Program) (w : World) (K : PySem.W.Frag) (mg : Str → Option Value) (base : Heap) (c m : Str) (k : Nat) (mm : List (Str × D) → Out (List (Str × D) × D)) : Prop :=
  ∃ C f fd ps, CF K mg c C ∧ Meth K C m f ∧ FnOk P w K mg base (L2.CX P w) k f fd ps (spM K mg c mm) ∧ Binds K fd ps []
end G

set_option Elab.async false
set_option linter.all false
set_option maxRecDepth 100000
set_option maxHeartbeats 4000000
namespace G
open PySem PySem.Spec PyProof.Rows L2
open Evl (Ex ex_l ex_t ex_rd)
/-! ### expressions that change own objects -/
def PostX (K : PySem.W.Frag) (mg : Str → Option Value) (W : WX) (F Gs Hs : Hp) (σ : L2.St) (r : Out (Env × D)) (Q : VK) : Prop := match r with
  | .ok x => ∀ v Hs' H', Rep K mg F Gs Hs' H' σ x.1 → Ex Hs Hs' → Is K Hs' x.2 v → Q v H'
  | .exc c p => ∀ cls d Hs' H', Grow Gs F Hs' H' → XIs mg H' c p cls d → W cls d σ H'
  | .stuck => False
def tX (K : PySem.W.Frag) (mg : Str → Option Value) (W : WX) (f : Env → Out (Env × D)) : TE := fun σ H Q => ∃ F Gs Hs ρ, Rep K mg F Gs Hs H σ ρ ∧ PostX K mg W F Gs Hs σ (f ρ) Q
structure HX (X : Cx) (W : WX) (e : Expr) (f : Env → Out (Env × D)) : Prop where
  pe : PE X e (tX X.K X.mg W f)
section
variable {K : PySem.W.Frag} {mg : Str → Option Value} {W : WX} {F Gs Hs H : Hp} {σ : L2.St} {ρ : Env}
theorem PostX.imp {r : Out (Env × D)} {Q Q' : VK} (h : PostX K mg W F Gs Hs σ r Q) (k : ∀ v H', Q v H' → Q' v H') : PostX K mg W F Gs Hs σ r Q' := by
  cases r with
  | ok x => exact fun v Hs' H' a b c => k _ _ (h v Hs' H' a b c)
  | exc c p => exact h
  | stuck => exact h
theorem PostX.mono {r : Out (Env × D)} {Q : VK} {Hs2 : Hp} (h : PostX K mg W F Gs Hs σ r Q) (e : Ex Hs Hs2) : PostX K mg W F Gs Hs2 σ r Q := by
  cases r with
  | ok x => exact fun v Hs' H' a b c => h v Hs' H' a (e.trans b) c
  | exc c p => exact h
  | stuck => exact h
/-- one list beside, in the frame -/
theorem Rep.frameIn {p : Addr} {o : HO} (r : Rep K mg F Gs Hs H σ ρ) (hp : H p = none) : Rep K mg (upd F p o) Gs Hs (upd H p o) σ ρ := by
  obtain ⟨fp, sl⟩ := r.sl
  have hs : Hs p = none := none_of_ex r.sh hp
  refine ⟨r.len, ⟨fun a u z => ?_, r.gr.s, fun a u z => ?_, fun a z1 z2 => ?_⟩, fp, fun i s e => ?_, fun i a ha => ?_, sl.sep, sl.nd⟩
  · by_cases q : a = p
    · rw [q, upd_same] at z; rw [q, upd_same]; exact z
    · rw [upd_ne q] at z; rw [upd_ne q]; exact r.gr.h a u z
  · rw [upd_ne fun y => by rw [y, hs] at z; cases z]; exact r.sh a u z
  · have q : a ≠ p := fun y => by rw [y] at z1; exact z1 hs
    rw [upd_ne q] at z2; exact r.gr.ap a z1 z2
  · obtain ⟨v, e1, ow⟩ := sl.own i s e
    exact ⟨v, e1, ow.frame fun z => (sl.free i p z).2.2 hp⟩
  · obtain ⟨a1, a2, a3⟩ := sl.free i a ha
    have q : a ≠ p := fun y => a3 (by rw [y]; exact hp)
    exact ⟨by rw [upd_ne q]; exact a1, a2, by rw [upd_ne q]; exact a3⟩
theorem Rep.frameSet {p : Addr} {o o' : HO} (r : Rep K mg (upd F p o) Gs Hs H σ ρ) (hs : Hs p = none) : Rep K mg (upd F p o') Gs Hs (upd H p o') σ ρ := by
  obtain ⟨fp, sl⟩ := r.sl
  have np : ∀ i a, a ∈ fp i → a ≠ p := fun i a ha y => by
    have := (sl.free i a ha).1
    rw [y, upd_same] at this; cases this
  refine ⟨r.len, ⟨fun a u z => ?_, r.gr.s, fun a u z => ?_, fun a z1 z2 => ?_⟩, fp, fun i s e => ?_, fun i a ha => ?_, sl.sep, sl.nd⟩
  · by_cases q : a = p
    · rw [q, upd_same] at z; rw [q, upd_same]; exact z
    · rw [upd_ne q] at z; rw [upd_ne q]; exact r.gr.h a u (by rw [upd_ne q]; exact z)
  · rw [upd_ne fun y => by rw [y, hs] at z; cases z]; exact r.sh a u z
  · have q : a ≠ p := fun y => by rw [y] at z1; exact z1 hs
    rw [upd_ne q] at z2; exact r.gr.ap a z1 (by rw [upd_ne q]; exact z2)
  · obtain ⟨v, e1, ow⟩ := sl.own i s e
    exact ⟨v, e1, ow.frame fun z => np i p z rfl⟩
  · obtain ⟨a1, a2, a3⟩ := sl.free i a ha
    have q := np i a ha
    rw [upd_ne q] at a1
    exact ⟨by rw [upd_ne q]; exact a1, a2, by rw [upd_ne q]; exact a3⟩
theorem Rep.frameOut {p : Addr} {o : HO} (r : Rep K mg (upd F p o) Gs Hs H σ ρ) (hF : F p = none) (hs : Hs p = none) : Rep K mg F Gs (upd Hs p o) H σ ρ ∧ Ex Hs (upd Hs p o) := by
  obtain ⟨fp, sl⟩ := r.sl
  have np : ∀ i a, a ∈ fp i → a ≠ p := fun i a ha y => by
    have := (sl.free i a ha).1
    rw [y, upd_same] at this; cases this
  have ex : Ex Hs (upd Hs p o) := Ex.new hs
  refine ⟨⟨r.len, ⟨fun a u z => ?_, r.gr.s.trans ex, fun a u z => ?_, fun a z1 z2 => ?_⟩, fp, fun i s e => ?_, fun i a ha => ?_, sl.sep, sl.nd⟩, ex⟩
  · have q : a ≠ p := fun y => by rw [y, hF] at z; cases z
    exact r.gr.h a u (by rw [upd_ne q]; exact z)
  · by_cases q : a = p
    · rw [q, upd_same] at z; rw [q]; exact r.gr.h p u (by rw [upd_same]; exact z)
    · rw [upd_ne q] at z; exact r.sh a u z
  · have q : a ≠ p := fun y => z2 (by rw [y]; exact hF)
    rw [upd_ne q] at z1
    exact r.gr.ap a z1 (by rw [upd_ne q]; exact z2)
  · obtain ⟨v, e1, ow⟩ := sl.own i s e
    exact ⟨v, e1, ow.mono ex (Ex.refl _)⟩
  · obtain ⟨a1, a2, a3⟩ := sl.free i a ha
    have q := np i a ha
    rw [upd_ne q] at a1
    exact ⟨a1, by rw [upd_ne q]; exact a2, a3⟩
/-- behind a call that changed the own object of slot i -/
theorem Rep.afterM {i : Nat} {c : Str} {fs fs' : List (Str × D)} {fv' : List (Str × V)} {p C dx' : Addr} {Hs' H' : Hp} (r : Rep K mg F Gs Hs H σ ρ) (e : ρ[i]? = some (some (.m c fs))) (ep : σ[i]? = some (some (.ref p))) (hC : mg c = some (.ref C))
    (g : Grow Hs (remH H p) Hs' H') (hs : Hs' p = none) (hp : H' p = some (.ins C dx' fv')) (hf : Flds K Hs' fs' fv') : Rep K mg F Gs Hs' H' σ (ρ.set i (some (.m c fs'))) := by
  obtain ⟨fp, sl⟩ := r.sl
  obtain ⟨v, e1, p', C', dx, vs, rfl, e3, hC', h1, h2⟩ := sl.own i _ e
  rw [ep] at e1
  cases e1
  have pm : p ∈ fp i := by rw [e3]; simp
  obtain ⟨f1, f2, f3⟩ := sl.free i p pm
  have keep : ∀ a o, a ≠ p → H a = some o → H' a = some o := fun a o na z => g.h a o (by rw [remH_ne na]; exact z)
  refine ⟨by rw [List.length_set]; exact r.len, ⟨fun a o z => ?_, r.gr.s.trans g.s, g.sh, fun a z1 z2 => ?_⟩, fp, fun j s' e4 => ?_, fun j q hq => ?_, sl.sep, sl.nd⟩
  · exact keep a o (fun y => by rw [y, f1] at z; cases z) (r.gr.h a o z)
  · have na : a ≠ p := fun y => z2 (by rw [y]; exact f1)
    refine r.gr.ap a (g.ap a z1 ?_) z2
    rw [remH_ne na]; exact ex_some r.gr.h z2
  · by_cases hj : j = i
    · subst hj
      rw [List.getElem?_set_self (List.getElem?_eq_some_iff.mp e).1] at e4
      cases e4
      exact ⟨_, ep, p, C, dx', fv', rfl, e3, hC, hp, hf⟩
    · rw [List.getElem?_set_ne (Ne.symm hj)] at e4
      obtain ⟨u, e5, o⟩ := sl.own j s' e4
      refine ⟨u, e5, (own_keep o fun a ha oo z => keep a oo (fun y => hj (sl.sep j i p (y ▸ ha) pm)) z).mono g.s (Ex.refl _)⟩
  · obtain ⟨a1, a2, a3⟩ := sl.free j q hq
    by_cases y : q = p
    · rw [y]; exact ⟨f1, hs, by rw [hp]; simp⟩
    · refine ⟨a1, ?_, ?_⟩
      · cases z : Hs' q with
        | none => rfl
        | some o => exact absurd a2 (g.ap q (by rw [z]; simp) (by rw [remH_ne y]; exact a3))
      · cases z : H q with
        | none => exact absurd z a3
        | some o => rw [keep q o y z]; simp
end
section
variable {X : Cx} {W : WX} {e a b c : Expr} {es : List Expr} {pos p1 apos q1 : Pos} {x : Str} {k n : Nat}
def kXm (i : Nat) (c : Str) (ρ : Env) (x : List (Str × D) × D) : Out (Env × D) := .ok (ρ.set i (some (.m c x.1)), x.2)
def kMethX (i : Nat) (c m : Str) (mm : List (Str × D) → Out (List (Str × D) × D)) (ρ : Env) : Option (Option S) → Out (Env × D)
  | some (some (.m c' fs)) => guard' (c' = c ∧ fs.lookup m = none) ((mm fs).bind (kXm i c' ρ))
  | _ => .stuck
def xMeth (i : Nat) (c m : Str) (mm : List (Str × D) → Out (List (Str × D) × D)) : Env → Out (Env × D) := fun ρ => kMethX i c m mm ρ ρ[i]?
theorem hx_meth (i : Nat) {cn m : Str} {mm : List (Str × D) → Out (List (Str × D) × D)} {pl : Sem Bool} (c : OCallee X.prog X.w X.K X.mg X.base cn m k mm) (hr : Room k X.A) (tk : Takes X W)
    (hN : X.N[i]? = some x := by rfl) (hv : Vis X.env.scope x := by first | exact Or.inl rfl | exact Or.inr (Or.inl rfl) | exact Or.inr (Or.inr rfl)) (hd : (x == ("__debug__" : Str)) = false := by decide) (hcd : (x == ("__classdict__" : Str)) = false := by decide)
    (ht : eval (.Call (.Attribute (.Name x p1) m apos) [] [] pos) X.env = (do
      let ov ← eval (.Name x p1) X.env
      standAt apos.atName
      let (f, first) ← holding [ov] (getMethod ov m pl)
      callWith pos f first (backTo pos (starEach [] X.env)) (backToKw pos (keywordEach [] X.env))) := by rfl) : HX X W (.Call (.Attribute (.Name x p1) m apos) [] [] pos) (xMeth i cn m mm) := by
  obtain ⟨C, f, fd, ps, T, hm, F, hb⟩ := c
  refine ⟨PE.imp (pe_methE0 (pe_var hN hv hd hcd) T.cl hm F hr hb (fun σ => passAt tk σ) ht) fun σ H Q ⟨F', Gs, Hs, ρ, r, p⟩ => ?_⟩
  unfold xMeth kMethX at p
  split at p
  · rename_i c' fs e
    by_cases hc : c' = cn ∧ fs.lookup m = none
    · have p2 : PostX X.K X.mg W F' Gs Hs σ ((mm fs).bind (kXm i c' ρ)) Q := by
        have := p
        rw [show guard' (c' = cn ∧ fs.lookup m = none) ((mm fs).bind (kXm i c' ρ)) = (mm fs).bind (kXm i c' ρ) from if_pos hc] at this
        exact this
      clear p
      obtain ⟨hc, hl⟩ := hc
      subst hc
      obtain ⟨fp, sl⟩ := id r.sl
      obtain ⟨v, e1, q, C', dx, vs, rfl, e3, hC, hH, hF⟩ := sl.own i _ e
      rw [T.g] at hC
      cases hC
      refine ⟨.ref q, e1, q, dx, vs, rfl, hH, hF.no hl, ?_⟩
      refine ⟨q, C, dx, vs, Hs, fs, rfl, T.g, hH, (sl.free i q (by rw [e3]; simp)).2.1, r.sh, hF, ?_⟩
      cases z : mm fs with
      | ok y =>
        rw [z] at p2
        exact fun v dx' fv' Hs' H' g hs hp hf hi => p2 v Hs' H' (r.afterM e e1 T.g g hs hp hf) g.s hi
      | exc c2 p' =>
        rw [z] at p2
        refine fun cls d Hs' H' g h => p2 cls d Hs' H' ⟨fun a o z' => ?_, r.gr.s.trans g.s, g.sh, fun a z1 z2 => ?_⟩ h
        · have f1 := (sl.free i q (by rw [e3]; simp)).1
          have na : a ≠ q := fun y => by rw [y, f1] at z'; cases z'
          exact g.h a o (by rw [remH_ne na]; exact r.gr.h a o z')
        · have f1 := (sl.free i q (by rw [e3]; simp)).1
          have na : a ≠ q := fun y => z2 (by rw [y]; exact f1)
          exact r.gr.ap a (g.ap a z1 (by rw [remH_ne na]; exact ex_some r.gr.h z2)) z2
      | stuck => rw [z] at p2; exact p2.elim
    · rw [show guard' (c' = cn ∧ fs.lookup m = none) ((mm fs).bind (kXm i c' ρ)) = .stuck from if_neg hc] at p
      exact p.elim
  · exact p.elim
end
end G

set_option Elab.async false
set_option linter.all false
set_option maxRecDepth 100000
set_option maxHeartbeats 4000000
namespace G
open PySem PySem.Spec PyProof.Rows L2
open Evl (Ex ex_l ex_t ex_rd)
section
variable {K : PySem.W.Frag} {mg : Str → Option Value} {W : WX} {F Gs Hs H : Hp} {σ : L2.St} {ρ : Env}
theorem wipeE_twice (ρ : Env) (vs : List Nat) : wipeE (wipeE ρ vs) vs = wipeE ρ vs := by
  apply List.ext_getElem?
  intro i
  rw [wipeE_get, wipeE_get, wipeE_length]
  split <;> rfl
theorem Rep.unwipe {vs : List Nat} (r : Rep K mg F Gs Hs H (L2.wipe σ vs) (wipeE ρ vs)) : Rep K mg F Gs Hs H σ (wipeE ρ vs) := by
  obtain ⟨fp, sl⟩ := r.sl
  refine ⟨by have := r.len; rw [wipe_length] at this; exact this, r.gr, fp, fun i s e => ?_, sl.free, sl.sep, sl.nd⟩
  obtain ⟨v, e1, o⟩ := sl.own i s e
  rw [wipeE_get] at e
  by_cases hm : i ∈ vs
  · rw [if_pos hm] at e; split at e <;> cases e
  · rw [wipe_get, if_neg hm] at e1
    exact ⟨v, e1, o⟩
end
/-- the turns of a comprehension whose element changes own objects -/
def lcX (k : D → Env → Out Env) (el : Env → Out (Env × D)) (vs : List Nat) : List D → Env → Out (Env × List D)
  | [], ρ => .ok (ρ, [])
  | d :: ds, ρ => (noX (k d ρ)).bind fun ρ1 => (noX (el ρ1)).bind fun x => (lcX k el vs ds (wipeE x.1 vs)).bind fun y => .ok (y.1, x.2 :: y.2)
def kXl (y : Env × List D) : Out (Env × D) := .ok (y.1, .lst y.2)
def kLcX (vs : List Nat) (k : D → Env → Out Env) (el : Env → Out (Env × D)) (ρ : Env) (ds : List D) : Out (Env × D) := guard' (ds.length ≤ cap) ((lcX k el vs ds (wipeE ρ vs)).bind kXl)
def xLc (vs : List Nat) (it : Env → Out (List D)) (k : D → Env → Out Env) (el : Env → Out (Env × D)) : Env → Out (Env × D) := fun ρ => (it ρ).bind (kLcX vs k el ρ)
theorem lcX_exc {k : D → Env → Out Env} {el : Env → Out (Env × D)} {vs : List Nat} {c : Str} {p : Option Int} : ∀ {ds : List D} {ρ : Env}, lcX k el vs ds ρ ≠ .exc c p
  | [], _, h => by cases h
  | d :: ds, ρ, h => by
    unfold lcX at h
    rcases noX_is (r := k d ρ) with ⟨ρ1, _, e⟩ | e
    · rw [e] at h
      have h : ((noX (el ρ1)).bind fun x => (lcX k el vs ds (wipeE x.1 vs)).bind fun y => Out.ok (y.1, x.2 :: y.2)) = .exc c p := h
      rcases noX_is (r := el ρ1) with ⟨x, _, e⟩ | e
      · rw [e] at h
        have h : ((lcX k el vs ds (wipeE x.1 vs)).bind fun y => Out.ok (y.1, x.2 :: y.2)) = .exc c p := h
        cases q : lcX k el vs ds (wipeE x.1 vs) with
        | ok y => rw [q] at h; cases h
        | exc c' p' => exact lcX_exc q
        | stuck => rw [q] at h; cases h
      · rw [e] at h; cases h
    · rw [e] at h; cases h
section
variable {X : Cx} {W : WX} {tg iter elt e a b c : Expr} {ifs : List Expr} {es : List Expr} {pos p1 : Pos} {scope : Scope} {own : List (Str × Nat)} {x : Str}
theorem postX_seq {α w : Type} {R : Rel α w} {K : PySem.W.Frag} {mg : Str → Option Value} {F Gs Hs H : Hp} {σ : L2.St} {ρ : Env} {r : Out α} {k : α → Out (Env × D)} {Q : VK} (rep : Rep K mg F Gs Hs H σ ρ) (h : PostX K mg W F Gs Hs σ (r.bind k) Q) :
    Post R mg W σ Hs H r (fun v H1 => ∃ Hs1 a, Grow Hs H Hs1 H1 ∧ R H Hs1 H1 a v ∧ PostX K mg W F Gs Hs1 σ (k a) Q) := by
  cases r with
  | ok a => exact fun v Hs2 H2 g2 hr => ⟨Hs2, a, g2, hr, PostX.mono h g2.s⟩
  | exc c p => exact fun cls d Hs2 H2 g2 hx => h cls d Hs2 H2 (rep.gr.trans g2) hx
  | stuck => exact h
theorem lcX_imp {it : Env → Out (List D)} {g : TG} {asg : List Nat} {k : D → Env → Out Env} {el : Env → Out (Env × D)} {vs : List Nat} (hg : GRd X.K X.mg g asg k) (hsub : ∀ i ∈ asg, i ∈ vs) {σ : L2.St} {H : Hp} {Q : VK}
    (h : tX X.K X.mg W (xLc vs it k el) σ H Q) : tLc (tG (RI X.K) X.K X.mg W it) g (tG RT X.K X.mg W0 yesT) (tX X.K X.mg W0 el) vs σ H Q := by
  obtain ⟨F, Gs, Hs, ρ, r, p⟩ := h
  refine ⟨F, Gs, Hs, ρ, r, (postX_seq r p).imp fun J H1 ⟨Hs1, ds, g1, hJ, p1⟩ => ?_⟩
  have p1 : PostX X.K X.mg W F Gs Hs1 σ (guard' (ds.length ≤ cap) ((lcX k el vs ds (wipeE ρ vs)).bind kXl)) Q := p1
  by_cases hcap : ds.length ≤ cap
  case neg => rw [show guard' (ds.length ≤ cap) ((lcX k el vs ds (wipeE ρ vs)).bind kXl) = .stuck from if_neg hcap] at p1; exact p1.elim
  rw [show guard' (ds.length ≤ cap) ((lcX k el vs ds (wipeE ρ vs)).bind kXl) = (lcX k el vs ds (wipeE ρ vs)).bind kXl from if_pos hcap] at p1
  intro Dl hD
  have r1 := r.grow g1
  have hDs1 : Hs1 Dl = none := none_of_ex g1.sh hD
  have hFD : F Dl = none := none_of_ex r1.gr.h hD
  have hGD : Gs Dl = none := none_of_ex r1.gr.s hDs1
  cases z : lcX k el vs ds (wipeE ρ vs) with
  | exc c' p' => exact (lcX_exc z).elim
  | stuck => rw [z] at p1; exact p1.elim
  | ok yF =>
  rw [z] at p1
  have p1 : ∀ v Hs' H', Rep X.K X.mg F Gs Hs' H' σ yF.1 → Ex Hs1 Hs' → Is X.K Hs' (.lst yF.2) v → Q v H' := p1
  have rw0 : Rep X.K X.mg F Gs Hs1 H1 σ (wipeE ρ vs) := (r1.wipe2 vs).unwipe
  refine ⟨fun i m H' => ∃ Hs' ρ' acc dn y, m = ds.length - i ∧ i ≤ ds.length ∧ Rep X.K X.mg (upd F Dl (.lst acc)) Gs Hs' H' σ ρ' ∧ wipeE ρ' vs = ρ' ∧ Ex Hs1 Hs' ∧ IsAll X.K Hs' dn acc ∧ dn.length ≤ i ∧ lcX k el vs (ds.drop i) ρ' = .ok y ∧ y.1 = yF.1 ∧ dn ++ y.2 = yF.2,
    ⟨ds.length, Hs1, wipeE ρ vs, [], [], yF, by simp, Nat.zero_le _, rw0.frameIn hD, wipeE_twice _ _, Ex.refl _, isAll_nil, Nat.le_refl _, z, rfl, rfl⟩, ?_⟩
  rintro i m H' ⟨Hs', ρ', acc, dn, y, rfl, hle, rep', hw, ex', ha, hl, hz, hy1, hy2⟩
  obtain ⟨j1, j2⟩ := hJ i H' (ex'.trans rep'.sh)
  have hn : ∀ {Hs2 H2 : Hp} {σ2 : L2.St} {ρ2 : Env}, Rep X.K X.mg (upd F Dl (.lst acc)) Gs Hs2 H2 σ2 ρ2 → Hs2 Dl = none := fun {Hs2 H2 σ2 ρ2} rr => by
    cases q : Hs2 Dl with
    | none => rfl
    | some o => exact absurd hGD (rr.gr.ap Dl (by rw [q]; simp) (by rw [upd_same]; simp))
  cases q : ds[i]? with
  | none =>
    refine .inl ⟨j2 q, ?_⟩
    have e0 : ds.drop i = [] := by
      rw [List.drop_eq_nil_iff]
      exact List.getElem?_eq_none_iff.mp q
    rw [e0] at hz
    unfold lcX at hz
    cases hz
    rw [List.append_nil] at hy2
    subst hy2
    obtain ⟨rF, exF⟩ := rep'.frameOut hFD (hn rep')
    refine p1 (.ref Dl) _ H' (hy1 ▸ rF) (ex'.trans exF) ?_
    simp only [Is]
    exact ⟨Dl, acc, rfl, upd_same, IsAll.mono exF _ ha⟩
  | some d =>
    obtain ⟨jg, jy⟩ := j1 d q
    have hlt : i < ds.length := (List.getElem?_eq_some_iff.mp q).1
    have hdr : ds.drop i = d :: ds.drop (i + 1) := by
      rw [List.drop_eq_getElem_cons hlt]
      have := (List.getElem?_eq_some_iff.mp q).2
      rw [this]
    rw [hdr] at hz
    unfold lcX at hz
    obtain ⟨ρ1, z1, hz⟩ := bind_ok hz
    obtain ⟨xx, z2, hz⟩ := bind_ok hz
    obtain ⟨y', z3, hz⟩ := bind_ok hz
    cases hz
    have z1 := noX_ok z1
    have z2 := noX_ok z2
    refine .inr ⟨jg, fun H2 => ∃ Hs' ρ' acc dn y, i + 1 ≤ ds.length ∧ Rep X.K X.mg (upd F Dl (.lst acc)) Gs Hs' H2 σ ρ' ∧ wipeE ρ' vs = ρ' ∧ Ex Hs1 Hs' ∧ IsAll X.K Hs' dn acc ∧ dn.length ≤ i + 1 ∧ lcX k el vs (ds.drop (i + 1)) ρ' = .ok y ∧ y.1 = yF.1 ∧ dn ++ y.2 = yF.2,
      fun H2 ⟨Hs2, ρ2, acc2, dn2, y2, a0, a1, a2, a3, a4, a5, a6, a7, a8⟩ => ⟨ds.length - (i + 1), by omega, Hs2, ρ2, acc2, dn2, y2, rfl, a0, a1, a2, a3, a4, a5, a6, a7, a8⟩, fun xv H2 yy => ?_⟩
    obtain ⟨rfl, hx⟩ := jy xv H2 yy
    refine hg.rd (upd F Dl (.lst acc)) Gs Hs' H2 (wipe σ vs) (wipeE ρ' vs) d xv _ ρ1 (rep'.wipe2 vs) (Is.mono ex' d hx) (by rw [hw]; exact z1) fun σ2 r2 k2 => ?_
    have ws : wipe σ2 vs = wipe σ vs := by
      refine (wipe_ext (σ' := wipe σ vs) ?_ fun i hi => k2 i fun z => hi (hsub i z)).trans (wipe_ext ?_ fun i hi => by rw [wipe_get, if_neg hi])
      · rw [r2.len, hg.len _ _ _ z1, wipe_length, rep'.len]
      · rw [wipe_length]
    refine ⟨ws, upd F Dl (.lst acc), Gs, Hs', ρ1, r2, ?_⟩
    show Post RT X.mg W0 σ2 Hs' H2 (.ok true) _
    intro b' Hs3 H3 g3 hb
    obtain rfl : b' = true := hb
    rw [if_pos rfl]
    refine ⟨upd F Dl (.lst acc), Gs, Hs3, ρ1, r2.grow g3, ?_⟩
    rw [z2]
    intro yv Hs4 H4 r4 ex4 hyv
    have d4 : H4 Dl = some (.lst acc) := r4.gr.h _ _ upd_same
    have n4 := hn r4
    have hal := ha.len
    have r5 : Rep X.K X.mg (upd F Dl (.lst acc)) Gs Hs4 H4 σ (wipeE xx.1 vs) := by
      have := r4.wipe2 vs
      rw [ws] at this
      exact this.unwipe
    exact ⟨acc, d4, by rw [hal]; exact cap_lt (by omega), Hs4, wipeE xx.1 vs, acc ++ [yv], dn ++ [xx.2], y', hlt, r5.frameSet n4, wipeE_twice _ _, (ex'.trans g3.s).trans ex4, IsAll.app (IsAll.mono (g3.s.trans ex4) _ ha) (isAll_cons hyv isAll_nil), by rw [List.length_append]; simpa using hl, z3, hy1, by rw [List.append_assoc]; exact hy2⟩
theorem hx_lc {it : Env → Out (List D)} {g : TG} {asg : List Nat} {k : D → Env → Out Env} {el : Env → Out (Env × D)} (hc : X.calm = true) (hN : X.N.Nodup) (hi : HI X W tg iter it) (ok : BlkOk X.N X.env.scope scope own)
    (hg : ∀ (s : Shared) (H : Hp) (C : Addr) (cl : List (Str × Addr)) (fp : List Addr), PG (X.blk s H scope (compEnvC scope cl C X.env) fp) tg g) (hr : GRd X.K X.mg g asg k)
    (he : ∀ (s : Shared) (H : Hp) (C : Addr) (cl : List (Str × Addr)) (fp : List Addr), HX (X.blk s H scope (compEnvC scope cl C X.env) fp) W0 elt el) (hsub : ∀ i ∈ asg, i ∈ own.map (·.2) := by decide) (hs : ∀ x, foldedSetIterable iter X.env x = pure x := by intro _; rfl) :
    HX X W (.ListComp elt [⟨tg, iter, [], 0⟩] scope pos) (xLc (own.map (·.2)) it k el) :=
  ⟨PE.imp (pe_lc (tt := tG RT X.K X.mg W0 yesT) (te := tX X.K X.mg W0 el) hc hN hi.pi ok hg (fun s H C cl fp => pts_yes) (fun s H C cl fp => (he s H C cl fp).pe) hs) fun σ H Q h => lcX_imp hr hsub h⟩
def kXt (x : Env × D) : Out (Env × D) := match x.2 with
  | .lst xs => .ok (x.1, .tup xs)
  | _ => .stuck
def xTuple (f : Env → Out (Env × D)) : Env → Out (Env × D) := fun ρ => (f ρ).bind kXt
theorem hx_tuple {f : Env → Out (Env × D)} (hm : X.mg "tuple" = none) (he : HX X W e f) (hg : Gl X "tuple" := by rfl)
    (hs : starEach [e] X.env = (false, eval e X.env) :: starEach [] X.env := by rfl) (hpl : (backTo pos (starEach [] X.env)).any (·.1) = false := by rfl) : HX X W (.Call (.Name "tuple" p1) [e] [] pos) (xTuple f) :=
  ⟨PE.imp (pe_callTy call_tuple_of hg hm (by decide +kernel) (pa_cons he.pe pa_nil hs) (by decide) (by decide) hs hpl) fun σ H Q ⟨F, Gs, Hs, ρ, r, p⟩ => ⟨F, Gs, Hs, ρ, r, by
    unfold xTuple at p
    cases q : f ρ with
    | ok y =>
      rw [q] at p
      have p : PostX X.K X.mg W F Gs Hs σ (kXt y) Q := p
      intro v Hs' H' r' ex' hi
      unfold kXt at p
      cases z : y.2 with
      | lst xs =>
        rw [z] at p hi
        have p : ∀ v Hs' H', Rep X.K X.mg F Gs Hs' H' σ y.1 → Ex Hs Hs' → Is X.K Hs' (.tup xs) v → Q v H' := p
        simp only [Is] at hi
        obtain ⟨t, us, rfl, ht, hu⟩ := hi
        exact ⟨t, us, rfl, .inl ⟨SqL.of (r'.sh _ _ ht), fun qq hq => p _ _ _ (r'.grow (grow_new r'.sh hq)) (ex'.trans (grow_new r'.sh hq).s) (is_tup_new r'.sh hq hu)⟩⟩
      | _ => rw [z] at p; exact p.elim
    | exc c p' => rw [q] at p; exact p
    | stuck => rw [q] at p; exact p⟩⟩
def kXa2 (ρ : Env) (d : D) : Out (Env × D) := .ok (ρ, d)
def kXa (da : D) (x : Env × D) : Out (Env × D) := (addD da x.2).bind (kXa2 x.1)
def kXa0 (g : Env → Out (Env × D)) (ρ : Env) (da : D) : Out (Env × D) := (g ρ).bind (kXa da)
def xAdd (f : Env → Out D) (g : Env → Out (Env × D)) : Env → Out (Env × D) := fun ρ => (f ρ).bind (kXa0 g ρ)
theorem hx_add {f : Env → Out D} {g : Env → Out (Env × D)} (ha : HD X W a f) (hb : HX X W b g) : HX X W (.BinOp a .Add b pos) (xAdd f g) :=
  ⟨PE.imp (pe_op op_addP ha.pe hb.pe) fun σ H Q ⟨F, Gs, Hs, ρ, r, p⟩ => ⟨F, Gs, Hs, ρ, r, (postX_seq r p).imp fun v H1 ⟨Hs1, da, g1, h1, p1⟩ => ⟨F, Gs, Hs1, ρ, r.grow g1, by
    have h1 : Is _ _ _ _ := h1
    have p1 : PostX X.K X.mg W F Gs Hs1 σ ((g ρ).bind (kXa da)) Q := p1
    cases q : g ρ with
    | ok y =>
      rw [q] at p1
      have p1 : PostX X.K X.mg W F Gs Hs1 σ ((addD da y.2).bind (kXa2 y.1)) Q := p1
      intro u Hs2 H2 r2 ex2 hu
      refine opd_add W σ da y.2 v u Hs2 H2 _ r2.sh (Is.mono ex2 da h1) hu ?_
      exact (postX_seq (R := RD X.K) r2 (PostX.mono p1 ex2)).imp fun w H3 ⟨Hs3, d, g3, h3, p3⟩ => p3 w Hs3 H3 (r2.grow g3) (Ex.refl _) h3
    | exc c p' => rw [q] at p1; exact p1
    | stuck => rw [q] at p1; exact p1⟩⟩⟩
def kXs (i : Nat) (x : Env × D) : Out Res := .ok (.next (x.1.set i (some (.d x.2))))
def sAsgX (i : Nat) (f : Env → Out (Env × D)) : Env → Out Res := fun ρ => (f ρ).bind (kXs i)
/-- slots outside vs stand, but for the fields of own objects -/
def FixX (vs : List Nat) (f : Env → Out (Env × D)) : Prop := ∀ ρ y, f ρ = .ok y → ∀ j, j ∉ vs → mq y.1[j]? = mq ρ[j]?
theorem fixX_meth {i : Nat} {cn m : Str} {mm : List (Str × D) → Out (List (Str × D) × D)} {vs : List Nat} : FixX vs (xMeth i cn m mm) := fun ρ y e j _ => by
  unfold xMeth kMethX at e
  split at e
  · rename_i c' fs eq
    obtain ⟨_, e⟩ := guard_eq e
    obtain ⟨z, _, e⟩ := bind_ok e
    cases e
    by_cases hj : j = i
    · subst hj
      rw [List.getElem?_set_self (List.getElem?_eq_some_iff.mp eq).1, eq]; rfl
    · rw [List.getElem?_set_ne (Ne.symm hj)]
  · cases e
theorem fix_lcX {k : D → Env → Out Env} {el : Env → Out (Env × D)} {vs asg : List Nat} {g : TG} (hg : GRd X.K X.mg g asg k) (hsub : ∀ i ∈ asg, i ∈ vs) (he : FixX vs el) : ∀ (ds : List D) (ρ : Env) (y : Env × List D), lcX k el vs ds ρ = .ok y → ∀ j, j ∉ vs → mq y.1[j]? = mq ρ[j]?
  | [], ρ, y, e, j, _ => by unfold lcX at e; cases e; rfl
  | d :: ds, ρ, y, e, j, hj => by
    unfold lcX at e
    obtain ⟨ρ1, z1, e⟩ := bind_ok e
    obtain ⟨xx, z2, e⟩ := bind_ok e
    obtain ⟨y', z3, e⟩ := bind_ok e
    cases e
    have h3 := fix_lcX hg hsub he ds _ y' z3 j hj
    rw [wipeE_get, if_neg hj] at h3
    have h1 := hg.fix d ρ ρ1 (noX_ok z1) j fun z => hj (hsub j z)
    rw [h3, he ρ1 xx (noX_ok z2) j hj, h1]
theorem fixX_lc {it : Env → Out (List D)} {k : D → Env → Out Env} {el : Env → Out (Env × D)} {vs asg : List Nat} {g : TG} (hg : GRd X.K X.mg g asg k) (he : FixX vs el) (hsub : ∀ i ∈ asg, i ∈ vs := by decide) : FixX vs (xLc vs it k el) := fun ρ y e j hj => by
  unfold xLc at e
  obtain ⟨ds, _, e⟩ := bind_ok e
  obtain ⟨_, e⟩ := guard_eq e
  obtain ⟨y', z, e⟩ := bind_ok e
  cases e
  have := fix_lcX hg hsub he ds _ y' z j hj
  rw [wipeE_get, if_neg hj] at this
  exact this
theorem fixX_tuple {f : Env → Out (Env × D)} {vs : List Nat} (h : FixX vs f) : FixX vs (xTuple f) := fun ρ y e j hj => by
  unfold xTuple at e
  obtain ⟨y', z, e⟩ := bind_ok e
  unfold kXt at e
  split at e
  · cases e; exact h ρ y' z j hj
  · cases e
theorem fixX_add {f : Env → Out D} {g : Env → Out (Env × D)} {vs : List Nat} (h : FixX vs g) : FixX vs (xAdd f g) := fun ρ y e j hj => by
  unfold xAdd at e
  obtain ⟨d, _, e⟩ := bind_ok e
  unfold kXa0 at e
  obtain ⟨y', z, e⟩ := bind_ok e
  unfold kXa at e
  obtain ⟨d', _, e⟩ := bind_ok e
  cases e
  exact h ρ y' z j hj
theorem hs_asgX (i : Nat) {f : Env → Out (Env × D)} {vs : List Nat} {pos' : Pos} (hN : X.N.Nodup) (hi : X.N[i]? = some x) (hx : Loc X.env.scope x) (he : HX X W e f) (hfx : FixX vs f) (hs : swapsWith e (some (.Name x pos')) pos.line X.env = pure false := by rfl) (hf : X.fn x = true ∨ X.env.scope.names.lookup x = some .local := by first | exact .inl rfl | exact .inr rfl | assumption) :
    HS1 X W (.Assign [.Name x pos'] e pos) (i :: vs) (sAsgX i f) :=
  ⟨PS.imp (ps_set hN hi hx he.pe hs hf) fun D σ H ⟨F, Gs, Hs, ρ, r, p⟩ => ⟨F, Gs, Hs, ρ, r, by
    unfold sAsgX at p
    cases q : f ρ with
    | ok y =>
      rw [q] at p
      exact fun v Hs' H' r' ex' hv => p _ Hs' H' (r'.setD hv) ex' fun j hj => set_out fun z => hj (by rw [List.mem_singleton.mp z]; exact List.mem_cons_self)
    | exc c p' => rw [q] at p; exact fun cls d Hs' H' g h => p cls d σ Hs' H' g h
    | stuck => rw [q] at p; exact p⟩, fun ρ ρ' e j hj => by
    obtain ⟨y, z, e⟩ := bind_next e
    cases e
    have h1 : j ≠ i := fun w => hj (by rw [w]; exact List.mem_cons_self)
    rw [List.getElem?_set_ne (Ne.symm h1)]
    exact hfx ρ y z j fun w => hj (List.mem_cons_of_mem _ w)⟩
end
end G

set_option Elab.async false
set_option linter.all false
set_option maxRecDepth 100000
set_option maxHeartbeats 4000000
namespace G
open PySem PySem.Spec PyProof.Rows L2
open Evl (Ex ex_l ex_t ex_rd)
/-! ### a dict of the module: texts to ints or texts -/
def LitR : D → Value → Prop
  | .int i, v => ∃ t, v = .int i t
  | .str z, v => ∃ t, v = .str z t
  | _, _ => False
def litV : D → V
  | .int i => .int i
  | .str z => .str z
  | _ => .non
theorem lit_rel : ∀ {d : D} {v : Value}, LitR d v → RelV (litV d) v
  | .int _, _, h => h
  | .str _, _, h => h
theorem lit_is {K : PySem.W.Frag} {H : Hp} : ∀ {d : D} {v : Value}, LitR d v → Is K H d (litV d)
  | .int _, _, _ => isI
  | .str _, _, _ => isS
structure GDT (K : PySem.W.Frag) (w : World) (mg : Str → Option Value) (x : Str) (tab : List (Str × D)) : Prop where
  h : ∃ d es n, mg x = some (.ref d) ∧ K.lookup d = some ⟨.type "dict", none, .dict es n, #[]⟩ ∧ PySem.W.KeysLit w.params es.toList ∧ (d == sysModules) = false ∧
    Paired (fun (e : DictEntry) (p : Str × D) => (∃ t, e.key = .str p.1 t) ∧ LitR p.2 e.val) es.toList tab
def tabW (tab : List (Str × D)) (z : Str) : Option D := (tab.find? fun p => p.1 == z).map (·.2)
theorem tabW_find : ∀ {l : List DictEntry} {tab : List (Str × D)} (z : Str), Paired (fun (e : DictEntry) (p : Str × D) => (∃ t, e.key = .str p.1 t) ∧ LitR p.2 e.val) l tab →
    (∃ d v, tabW tab z = some d ∧ LitR d v ∧ (l.find? fun e => Value.isStrOf z e.key).map (·.val) = some v) ∨ (tabW tab z = none ∧ (l.find? fun e => Value.isStrOf z e.key).map (·.val) = none)
  | _, _, _, .nil => .inr ⟨rfl, rfl⟩
  | e :: l, p :: tab, z, .cons ⟨⟨t, hk⟩, hv⟩ r => by
    have e1 : Value.isStrOf z e.key = (p.1 == z) := by rw [hk]; rfl
    unfold tabW
    rw [List.find?_cons, List.find?_cons, e1]
    cases q : (p.1 == z) with
    | true => exact .inl ⟨p.2, e.val, rfl, hv, rfl⟩
    | false => exact tabW_find z r
def gidxT (tab : List (Str × D)) : D → Out D
  | .str z => oOf (tabW tab z)
  | _ => .stuck
def ginT (tab : List (Str × D)) : D → Out D
  | .str z => .ok (.bl (tabW tab z).isSome)
  | _ => .stuck
section
variable {X : Cx} {W : WX} {e a b c : Expr} {es : List Expr} {pos p1 p2 p3 apos : Pos} {x : Str} {tab : List (Str × D)}
theorem hd_gidx {f : Env → Out D} (g : GDT X.K X.w X.mg x tab) (he : HD X W e f) (hg : Gl X x := by rfl) (hdb : (x == ("__debug__" : Str)) = false := by decide) (hs : NoSl e := by intro _ _; rfl) :
    HD X W (.Subscript (.Name x p1) e pos) (d1 (gidxT tab) f) := by
  obtain ⟨d, ents, n, hm, hl, hk, low, hp⟩ := g.h
  refine ⟨⟨fun pins s σ H Q I h => ?_⟩⟩
  have e0 : ∀ z, findBy Value.isStrOf ents z = (ents.toList.find? fun e => Value.isStrOf z e.key).map (·.val) := fun z => by
    obtain ⟨l⟩ := ents
    unfold findBy; rw [List.find?_toArray]
  refine subD_of PySem.F.slot_dict_getitem.lookup hs (thn ((pe_glob (v := .ref d) hg hm rfl hdb).run pins s σ H (fun v H1 => v = .ref d ∧ tG (RD X.K) X.K X.mg W f σ H1 (fun y H2 => ∃ z dd, y = .str z ∧ tabW tab z = some dd ∧ ∀ v, LitR dd v → Q (litV dd) H2)) I ⟨rfl, ?_⟩) fun u s1 ⟨v, H1, I1, rx, ev, q1⟩ => thn (he.pe.run pins s1 σ H1 _ I1 q1) fun iv s2 ⟨y, H2, I2, ry, z, dd, ez, ht, q2⟩ => ?_)
  · obtain ⟨F, Gs, Hs, ρ, r, p⟩ := h
    refine ⟨F, Gs, Hs, ρ, r, (Post.seq anti_D p).imp fun v H1 ⟨Hs1, dd, g1, h1, p1⟩ => ?_⟩
    have h1 : Is _ _ _ _ := h1
    cases dd with
    | str z =>
      simp only [Is] at h1
      obtain ⟨d2, e2, p1⟩ := oOf_ok p1
      exact ⟨z, d2, h1, e2, fun v hv => Post.now (R := RD X.K) p1 g1.sh (lit_is hv)⟩
    | _ => exact p1.elim
  · subst ev
    obtain rfl : u = Value.ref d := rx
    subst ez
    obtain ⟨t, rfl⟩ := ry
    have mo := PySem.W.mapOf_K (prog := X.prog) (w := X.w) I2.kIn hl hk
    refine ⟨mo.typeIs, ?_⟩
    rcases tabW_find z hp with ⟨d2, v2, h1, h2, h3⟩ | ⟨h1, _⟩
    · rw [ht] at h1
      cases h1
      refine wpAny_getItem_of (knd := strKind X.prog X.w) (strKind_is X.prog X.w z t) mo (by rw [e0]; exact h3) ⟨_, H2, I2.tok _, lit_rel h2, q2 v2 h2⟩
    · rw [ht] at h1; cases h1
theorem pc_gin {f : Env → Out D} (g : GDT X.K X.w X.mg x tab) (he : HD X W e f) (hg : Gl X x) (hdb : (x == ("__debug__" : Str)) = false) : PC X .In e (.Name x p1) (fun σ H Q => tG (RD X.K) X.K X.mg W (d1 (ginT tab) f) σ H Q) := by
  obtain ⟨d, ents, n, hm, hl, hk, low, hp⟩ := g.h
  refine ⟨fun pins s σ H Q I h => ?_⟩
  have e0 : ∀ z, findBy Value.isStrOf ents z = (ents.toList.find? fun e => Value.isStrOf z e.key).map (·.val) := fun z => by
    obtain ⟨l⟩ := ents
    unfold findBy; rw [List.find?_toArray]
  have h' : tG (RD X.K) X.K X.mg W f σ H (fun y H2 => ∃ z, y = .str z ∧ Q (.bl (tabW tab z).isSome) H2) := by
    obtain ⟨F, Gs, Hs, ρ, r, p⟩ := h
    refine ⟨F, Gs, Hs, ρ, r, (Post.seq anti_D p).imp fun v H1 ⟨Hs1, dd, g1, h1, p1⟩ => ?_⟩
    have h1 : Is _ _ _ _ := h1
    cases dd with
    | str z =>
      simp only [Is] at h1
      exact ⟨z, h1, Post.now (R := RD X.K) p1 g1.sh isB⟩
    | _ => exact p1.elim
  refine thn (he.pe.run pins s σ H _ I h') fun iv s1 ⟨y, H1, I1, ry, z, ez, q1⟩ => thn ((pe_glob (v := .ref d) hg hm rfl hdb).run pins s1 σ H1 (fun v H2 => v = .ref d ∧ Q (.bl (tabW tab z).isSome) H2) I1 ⟨rfl, q1⟩) fun u s2 ⟨v, H2, I2, rx, ev, q2⟩ => ?_
  subst ev
  obtain rfl : u = Value.ref d := rx
  subst ez
  obtain ⟨t, rfl⟩ := ry
  have mo := PySem.W.mapOf_K (prog := X.prog) (w := X.w) I2.kIn hl hk
  refine wpAny_in_of (knd := strKind X.prog X.w) (strKind_is X.prog X.w z t) low mo ⟨_, H2, I2.tok _, ?_, q2⟩
  show RelV (V.bl (tabW tab z).isSome) (Value.bool _)
  have : (findBy Value.isStrOf ents z).isSome = (tabW tab z).isSome := by
    rw [e0]
    rcases tabW_find z hp with ⟨d2, v2, h1, h2, h3⟩ | ⟨h1, h3⟩
    · rw [h1, h3]; rfl
    · rw [h1, h3]; rfl
  rw [this]; rfl
theorem hd_gin {f : Env → Out D} (g : GDT X.K X.w X.mg x tab) (he : HD X W e f) (hg : Gl X x := by rfl) (hdb : (x == ("__debug__" : Str)) = false := by decide) : HD X W (.Compare e [.In] [.Name x p1] pos) (d1 (ginT tab) f) := ⟨pe_cmp (pc_gin g he hg hdb) rfl⟩
end
end G

set_option Elab.async false
set_option linter.all false
set_option maxRecDepth 100000
set_option maxHeartbeats 4000000
namespace G
open PySem PySem.Spec PyProof.Rows L2
open Evl (Ex ex_l ex_t ex_rd)
/-! ### for k in a dict of the module -/
def Itg (ks : List Str) : It := ⟨fun i _ => i < ks.length, fun i H x H' => H' = H ∧ ∃ z, ks[i]? = some z ∧ x = .str z, fun i _ => ks.length ≤ i⟩
theorem turn_keysG {P : Program} {w : World} {K : PySem.W.Frag} {tg : Expr} {d : Addr} {o : Obj} {es : Array DictEntry} {ep : Nat} {ks : List Str} (it : Addr) (hod : o.data = .dict es ep) (hl : K.lookup d = some o) (hsz : es.size = ks.length) (ent : ∀ (i : Nat) (z : Str), ks[i]? = some z → ∃ en t, es[i]? = some en ∧ en.key = .str z t) :
    Turn P w K tg (Itg ks) [it] it (fun i h => h.IsKeyIter it d i ks.length ep) where
  mem := by simp
  obj := fun i h st b hb => by
    have e : b = it := by simpa using hb
    subst e
    obtain ⟨oi, e, c, dd⟩ := st
    exact ⟨oi, e, fun v z => by rw [dd] at z; cases z⟩
  keep := fun i h h' st k => st.at fun oi e => k it (by simp) oi e
  item := by
    intro X hP hw hK hc i pins s σ H E I hf st hi
    subst hP hw hK
    obtain ⟨f0, f1, f2, f3, f4, f5⟩ := hf it (by simp)
    obtain ⟨z, hkv⟩ : ∃ z, ks[i]? = some z := ⟨ks[i], List.getElem?_eq_getElem hi⟩
    obtain ⟨en, t, hen, hkey⟩ := ent i z hkv
    refine next_key_item st (I.kIn _ _ hl) hod hsz hen fun h' st' sb => ?_
    have I1 : L2.Inv X pins σ H { s with heap := h' } := I.turned (t' := s.toks) (fun b ob hb e => (sb.2 b hb).trans e) f0 f1 f3 f4 f5
    obtain ⟨oi, e, c, dd⟩ := id st'
    exact ⟨en.key, rfl, go_of (s := { s with heap := h' }) e c dd (by decide) ⟨.str z, H, I1, ⟨t, hkey⟩, ⟨rfl, z, hkv, rfl⟩, st', fun b hb => (hf b hb).1⟩⟩
  done := by
    intro X hP hw hK hc i pins s σ H E I hf st hi
    subst hP hw hK
    obtain ⟨f0, f1, f2, f3, f4, f5⟩ := hf it (by simp)
    exact next_key_end (I.ok.hd hc) st (I.kIn _ _ hl) hod hsz hi fun h' eb => ⟨rfl, I.turned (t' := s.toks) (fun b ob hb e => eb b ob hb e) f0 f1 f3 f4 f5⟩
  self := fun A i s Q E st h => wpAny_pyIter_keyiter st h
theorem paired_at {α β : Type} {G : α → β → Prop} : ∀ {l₁ : List α} {l₂ : List β}, Paired G l₁ l₂ → ∀ {i : Nat} {b : β}, l₂[i]? = some b → ∃ a, l₁[i]? = some a ∧ G a b
  | _, _, .cons r t, 0, b, e => by
    rw [List.getElem?_cons_zero] at e; cases e; exact ⟨_, rfl, r⟩
  | _, _, .cons r t, i + 1, b, e => by
    rw [List.getElem?_cons_succ] at e ⊢; exact paired_at t e
section
variable {X : Cx} {W : WX} {e a b c tg : Expr} {es : List Expr} {pos p1 p2 p3 apos : Pos} {x : Str} {tab : List (Str × D)}
def itT' (tab : List (Str × D)) : Env → Out (List D) := fun _ => .ok (tab.map fun p => .str p.1)
theorem hi_gd (g : GDT X.K X.w X.mg x tab) (hg : Gl X x := by rfl) (hdb : (x == ("__debug__" : Str)) = false := by decide) : HI X W tg (.Name x p1) (itT' tab) := by
  obtain ⟨d, ents, n, hm, hl, hk, low, hp⟩ := g.h
  refine ⟨⟨fun pins s σ H R I h => ?_⟩⟩
  have hsz : ents.size = (tab.map (·.1)).length := by
    rw [List.length_map, ← Paired.length hp, Array.length_toList]
  have ent : ∀ (i : Nat) (z : Str), (tab.map (·.1))[i]? = some z → ∃ en t, ents[i]? = some en ∧ en.key = .str z t := fun i z e => by
    rw [List.getElem?_map] at e
    cases q : tab[i]? with
    | none => rw [q] at e; cases e
    | some p =>
      rw [q] at e
      have e : some p.1 = some z := e
      cases e
      obtain ⟨en, e1, ⟨t, e2⟩, _⟩ := paired_at hp q
      exact ⟨en, t, by rw [← Array.getElem?_toList]; exact e1, e2⟩
  have q0 : R (Itg (tab.map (·.1))) H := by
    obtain ⟨F, Gs, Hs, ρ, r, p⟩ := h
    refine Post.now (R := RI X.K) p r.sh ?_
    intro i H' _
    refine ⟨fun dd hd => ?_, fun hn => ?_⟩
    · rw [List.getElem?_map] at hd
      cases q : tab[i]? with
      | none => rw [q] at hd; cases hd
      | some p =>
        rw [q] at hd
        have hd : some (D.str p.1) = some dd := hd
        cases hd
        refine ⟨by show i < (tab.map (·.1)).length; rw [List.length_map]; exact (List.getElem?_eq_some_iff.mp q).1, fun xv H2 ⟨e1, z, e2, e3⟩ => ⟨e1, ?_⟩⟩
        rw [List.getElem?_map, q] at e2
        have e2 : some p.1 = some z := e2
        cases e2
        rw [e3]; exact isS
    · show (tab.map (·.1)).length ≤ i
      have := List.getElem?_eq_none_iff.mp hn
      rw [List.length_map] at this ⊢; exact this
  refine thn ((pe_glob (v := .ref d) hg hm rfl hdb).run pins s σ H (fun v H1 => v = .ref d ∧ R (Itg (tab.map (·.1))) H1) I ⟨rfl, q0⟩) fun u s1 ⟨v, H1, I1, rx, ev, q⟩ => ?_
  subst ev
  obtain rfl : u = Value.ref d := rx
  refine iter_keys low (I1.kIn _ _ hl) ⟨rfl, rfl, rfl⟩ rfl (pi_one (tk := s1.toks) I1 _ (turn_keysG (o := ⟨.type "dict", none, .dict ents n, #[]⟩) _ rfl hl hsz ent) ⟨_, Heap.get?_push_size _ rfl, rfl, ?_⟩ q)
  rw [hsz] <;> rfl
end
end G

set_option Elab.async false
set_option linter.all false
set_option maxRecDepth 100000
set_option maxHeartbeats 4000000
namespace G
open PySem PySem.Spec PyProof.Rows L2
open Evl (Ex ex_l ex_t ex_rd)
/-! ### {k: v, ..}[x] of a display of texts to texts -/
def tabS (tab : List (Str × Str)) (z : Str) : Option Str := (tab.find? fun p => p.1 == z).map (·.2)
def didxD (tab : List (Str × Str)) : D → Out D
  | .str z => oOf ((tabS tab z).map .str)
  | _ => .stuck
def tabTS (tab : List (Str × Str)) : List (TE × TE) := tab.map fun p => (tC (.str p.1), tC (.str p.2))
def tabKS (tab : List (Str × Str)) : List (Key × V) := tab.map fun p => (Sum.inr p.1, V.str p.2)
theorem tabTS_run : ∀ (tab : List (Str × Str)) (σ : L2.St) (H : Hp) (Q : List (V × V) → Hp → Prop), Q ((tabKS tab).map fun kv => (kV kv.1, kv.2)) H → tPairs (tabTS tab) σ H Q
  | [], _, _, _, h => h
  | p :: tab, σ, H, Q, h => tabTS_run tab σ H _ h
theorem tabKS_val (z : Str) : ∀ tab : List (Str × Str), valV (tabKS tab) (Sum.inr z) = (tabS tab z).map V.str
  | [] => rfl
  | p :: tab => by
    have ih := tabKS_val z tab
    unfold tabS
    rw [List.find?_cons]
    cases q : (p.1 == z) with
    | true =>
      rw [show tabKS (p :: tab) = (Sum.inr p.1, V.str p.2) :: tabKS tab from rfl, valV_pos (by rw [eq_of_beq q])]
      rfl
    | false =>
      rw [show tabKS (p :: tab) = (Sum.inr p.1, V.str p.2) :: tabKS tab from rfl, valV_neg (by
        intro e
        have e : (Sum.inr p.1 : Key) = Sum.inr z := e
        rw [Sum.inr.inj e] at q
        rw [beq_self_eq_true] at q; cases q), ih]
      rfl
section
variable {X : Cx} {W : WX} {e : Expr} {pos dpos : Pos} {keys : List (Option Expr)} {values : List Expr}
theorem hd_didx (tab : List (Str × Str)) {f : Env → Out D} (hu : X.A.units + 64 < cLine) (hp : PPs X dpos keys values (tabTS tab)) (he : HD X W e f) (hm : mergeK [] (tabKS tab) = tabKS tab) (h0 : keys ≠ []) (hs : NoSl e := by intro _ _; rfl) (hall : keys.all (·.isSome) = true := by rfl) (hl : keys.length = values.length := by rfl)
    (h15 : keys.length ≤ 15 := by decide) (hk : tab.length ≤ 15 := by decide) : HD X W (.Subscript (.Dict keys values dpos) e pos) (d1 (didxD tab) f) := by
  refine ⟨PE.imp (pe_dget (by omega) (pe_disp hp hall hl h0 h15) he.pe hs) fun σ H Q ⟨F, Gs, Hs, ρ, r, p⟩ => fun q hq => tabTS_run tab _ _ _ ⟨upd_same, tabKS tab, rfl, by unfold tabKS; rw [List.length_map]; exact hk, ?_⟩⟩
  rw [hm]
  have ex : Ex H (upd (upd H q (.dK [])) q (.dK (tabKS tab))) := fun a o z => by
    have ne : a ≠ q := fun w => by rw [w, hq] at z; cases z
    rw [upd_ne ne, upd_ne ne]; exact z
  have g0 := Grow.whole r.sh ex
  have p : Post (RD X.K) X.mg W σ Hs H ((f ρ).bind fun d => didxD tab d) Q := p
  refine ⟨F, Gs, Hs, ρ, r.grow g0, (Post.seq anti_D (Post.mono anti_D p g0)).imp fun v H1 ⟨Hs1, d, g1, h1, p1⟩ => ?_⟩
  have h1 : Is _ _ _ _ := h1
  cases d with
  | str z =>
    simp only [Is] at h1
    subst h1
    obtain ⟨d2, e2, p1⟩ := oOf_ok p1
    have hd : H1 q = some (.dK (tabKS tab)) := g1.h _ _ upd_same
    obtain ⟨y, hy, rfl⟩ := Option.map_eq_some_iff.mp e2
    refine ⟨q, .str y, rfl, ?_, Post.now (R := RD X.K) p1 g1.sh isS⟩
    have := DGet.k (k := Sum.inr z) hd
    rw [tabKS_val, hy] at this
    exact this
  | _ => exact p1.elim
end
end G

set_option Elab.async false
set_option linter.all false
set_option maxRecDepth 100000
set_option maxHeartbeats 4000000
namespace G
open PySem PySem.Spec PyProof.Rows L2
open Evl (Ex ex_l ex_t ex_rd)
/-! ### a statement that is not reached -/
def sStuck : Env → Out Res := fun _ => .stuck
theorem hs_stuck {X : Cx} {W : WX} {st : Stmt} : HS1 X W st [] sStuck := ⟨⟨fun pins s σ H D I ⟨F, Gs, Hs, ρ, r, p⟩ => (show False from p).elim⟩, fun ρ ρ' e => by cases e⟩
/-! ### an own list of own lists: only the outer one stays own -/
def thawS : S → Option S
  | .ll xss => some (.l (xss.map .lst))
  | _ => none
def thawE (ρ : Env) (i : Nat) : Env := match ρ[i]? with
  | some (some (.ll xss)) => ρ.set i (some (.l (xss.map .lst)))
  | _ => ρ
section
variable {K : PySem.W.Frag} {mg : Str → Option Value} {F Gs Hs H : Hp} {σ : L2.St} {ρ : Env}
theorem Rep.thaw (r : Rep K mg F Gs Hs H σ ρ) (i : Nat) : ∃ Hs', Ex Hs Hs' ∧ Rep K mg F Gs Hs' H σ (thawE ρ i) := by
  unfold thawE
  split
  · rename_i xss e
    obtain ⟨fp, sl⟩ := r.sl
    obtain ⟨v, e1, p, ps, rfl, e3, h1, h2⟩ := sl.own i _ e
    have hnd := sl.nd i
    rw [e3] at hnd
    have ndp := List.nodup_cons.mp hnd
    have hin : ∀ q ∈ ps, q ∈ fp i := fun q hq => by rw [e3]; exact List.mem_cons_of_mem _ hq
    have hf : ∀ q ∈ ps, Hs q = none := fun q hq => (sl.free i q (hin q hq)).2.1
    have hx : Ex Hs (addH Hs H ps) := addH_ex hf
    have pm : p ∈ fp i := by rw [e3]; exact List.mem_cons_self
    refine ⟨addH Hs H ps, hx, by rw [List.length_set]; exact r.len, ⟨r.gr.h, r.gr.s.trans hx, addH_sh r.gr.sh, fun a z1 z2 => ?_⟩, fun j => if j = i then [p] else fp j, fun j s' e2 => ?_, fun j q hq => ?_, fun j k q z1 z2 => ?_, fun j => ?_⟩
    · by_cases q : a ∈ ps
      · exact absurd (sl.free i a (hin a q)).1 z2
      · unfold addH at z1; rw [if_neg q] at z1; exact r.gr.ap a z1 z2
    · by_cases hj : j = i
      · subst hj
        rw [List.getElem?_set_self (List.getElem?_eq_some_iff.mp e).1] at e2
        cases e2
        exact ⟨_, e1, p, _, rfl, if_pos rfl, h1, isAll_refs hx (fun q hq => hq) h2⟩
      · rw [List.getElem?_set_ne (Ne.symm hj)] at e2
        obtain ⟨u, e5, o⟩ := sl.own j s' e2
        exact ⟨u, e5, by rw [if_neg hj]; exact o.mono hx (Ex.refl _)⟩
    · by_cases hj : j = i
      · rw [if_pos hj] at hq
        rw [List.mem_singleton.mp hq]
        obtain ⟨a1, a2, a3⟩ := sl.free i p pm
        refine ⟨a1, ?_, a3⟩
        unfold addH; rw [if_neg ndp.1]; exact a2
      · rw [if_neg hj] at hq
        obtain ⟨a1, a2, a3⟩ := sl.free j q hq
        refine ⟨a1, ?_, a3⟩
        unfold addH; rw [if_neg fun z => hj (sl.sep j i q hq (hin q z))]; exact a2
    · have up : ∀ j, q ∈ (if j = i then [p] else fp j) → q ∈ fp j := fun j h => by
        by_cases hj : j = i
        · rw [if_pos hj] at h; rw [List.mem_singleton.mp h, hj]; exact pm
        · rw [if_neg hj] at h; exact h
      exact sl.sep j k q (up j z1) (up k z2)
    · show (if j = i then [p] else fp j).Nodup
      split
      · simp
      · exact sl.nd j
  · exact ⟨Hs, Ex.refl _, r⟩
theorem thawE_out {i j : Nat} (h : j ∉ [i]) : (thawE ρ i)[j]? = ρ[j]? := by
  unfold thawE
  split
  · exact set_out h
  · rfl
/-- an own list into the frame .. -/
theorem Rep.lendOut {i : Nat} {xs : List D} (r : Rep K mg F Gs Hs H σ ρ) (e : ρ[i]? = some (some (.l xs))) :
    ∃ p vs, σ[i]? = some (some (.ref p)) ∧ H p = some (.lst vs) ∧ IsAll K Hs xs vs ∧ F p = none ∧ Hs p = none ∧ Rep K mg (upd F p (.lst vs)) Gs Hs H σ (ρ.set i none) := by
  obtain ⟨fp, sl⟩ := r.sl
  obtain ⟨v, e1, p, vs, rfl, e3, h1, h2⟩ := sl.own i _ e
  have pm : p ∈ fp i := by rw [e3]; exact List.mem_cons_self
  obtain ⟨f1, f2, f3⟩ := sl.free i p pm
  refine ⟨p, vs, e1, h1, h2, f1, f2, by rw [List.length_set]; exact r.len, ⟨fun a o z => ?_, r.gr.s, r.gr.sh, fun a z1 z2 => ?_⟩, fun j => if j = i then [] else fp j, fun j s' e2 => ?_, fun j q hq => ?_, fun j k q z1 z2 => ?_, fun j => ?_⟩
  · by_cases q : a = p
    · rw [q, upd_same] at z; rw [q, h1]; exact z
    · rw [upd_ne q] at z; exact r.gr.h a o z
  · have q : a ≠ p := fun y => z1 (by rw [y]; exact f2)
    rw [upd_ne q] at z2; exact r.gr.ap a z1 z2
  · by_cases hj : j = i
    · subst hj
      rw [List.getElem?_set_self (List.getElem?_eq_some_iff.mp e).1] at e2
      cases e2
    · rw [List.getElem?_set_ne (Ne.symm hj)] at e2
      obtain ⟨u, e5, o⟩ := sl.own j s' e2
      exact ⟨u, e5, by rw [if_neg hj]; exact o⟩
  · by_cases hj : j = i
    · rw [if_pos hj] at hq; cases hq
    · rw [if_neg hj] at hq
      obtain ⟨a1, a2, a3⟩ := sl.free j q hq
      have nq : q ≠ p := fun y => hj (sl.sep j i q hq (by rw [y]; exact pm))
      exact ⟨by rw [upd_ne nq]; exact a1, a2, a3⟩
  · have up : ∀ j, q ∈ (if j = i then [] else fp j) → q ∈ fp j := fun j h => by
      by_cases hj : j = i
      · rw [if_pos hj] at h; cases h
      · rw [if_neg hj] at h; exact h
    exact sl.sep j k q (up j z1) (up k z2)
  · show (if j = i then [] else fp j).Nodup
    split
    · exact List.nodup_nil
    · exact sl.nd j
/-- .. and back -/
theorem Rep.lendBack {i : Nat} {xs : List D} {p : Addr} {vs : List V} (r : Rep K mg (upd F p (.lst vs)) Gs Hs H σ ρ) (e : σ[i]? = some (some (.ref p))) (hi : i < ρ.length) (hv : IsAll K Hs xs vs) (hF : F p = none) (hG : Gs p = none) : Rep K mg F Gs Hs H σ (ρ.set i (some (.l xs))) := by
  obtain ⟨fp, sl⟩ := r.sl
  have hH : H p = some (.lst vs) := r.gr.h _ _ upd_same
  have hs : Hs p = none := by
    cases q : Hs p with
    | none => rfl
    | some o => exact absurd hG (r.gr.ap p (by rw [q]; simp) (by rw [upd_same]; simp))
  have np : ∀ j q, q ∈ fp j → q ≠ p := fun j q hq y => by
    have := (sl.free j q hq).1
    rw [y, upd_same] at this; cases this
  refine ⟨by rw [List.length_set]; exact r.len, ⟨fun a o z => ?_, r.gr.s, r.gr.sh, fun a z1 z2 => ?_⟩, fun j => if j = i then [p] else fp j, fun j s' e2 => ?_, fun j q hq => ?_, fun j k q z1 z2 => ?_, fun j => ?_⟩
  · exact r.gr.h a o (by rw [upd_ne fun y => by rw [y, hF] at z; cases z]; exact z)
  · have q : a ≠ p := fun y => z2 (by rw [y]; exact hF)
    exact r.gr.ap a z1 (by rw [upd_ne q]; exact z2)
  · by_cases hj : j = i
    · subst hj
      rw [List.getElem?_set_self hi] at e2
      cases e2
      exact ⟨_, e, p, vs, rfl, if_pos rfl, hH, hv⟩
    · rw [List.getElem?_set_ne (Ne.symm hj)] at e2
      obtain ⟨u, e5, o⟩ := sl.own j s' e2
      exact ⟨u, e5, by rw [if_neg hj]; exact o⟩
  · by_cases hj : j = i
    · rw [if_pos hj] at hq
      rw [List.mem_singleton.mp hq]
      exact ⟨hF, hs, by rw [hH]; simp⟩
    · rw [if_neg hj] at hq
      obtain ⟨a1, a2, a3⟩ := sl.free j q hq
      rw [upd_ne (np j q hq)] at a1
      exact ⟨a1, a2, a3⟩
  · by_cases hj : j = i
    · by_cases hk : k = i
      · rw [hj, hk]
      · rw [if_pos hj] at z1; rw [if_neg hk] at z2
        exact absurd (List.mem_singleton.mp z1) (np k q z2)
    · by_cases hk : k = i
      · rw [if_neg hj] at z1; rw [if_pos hk] at z2
        exact absurd (List.mem_singleton.mp z2) (np j q z1)
      · rw [if_neg hj] at z1; rw [if_neg hk] at z2; exact sl.sep j k q z1 z2
  · show (if j = i then [p] else fp j).Nodup
    split
    · simp
    · exact sl.nd j
end
/-! ### for over an own list that stays own -/
def kForO (i : Nat) (xs : List D) : Res → Out Res
  | .next ρ' => .ok (.next (ρ'.set i (some (.l xs))))
  | .ret s => .ok (.ret s)
def kForO0 (i : Nat) (k : D → Env → Out Env) (f : Env → Out Res) (ρ : Env) : Option (Option S) → Out Res
  | some (some (.l xs)) => (loopD k f xs (ρ.set i none)).bind (kForO i xs)
  | _ => .stuck
def sForO (i : Nat) (k : D → Env → Out Env) (f : Env → Out Res) : Env → Out Res := fun ρ => kForO0 i k f ρ ρ[i]?
theorem hs_thaw {X : Cx} {W : WX} {sts : List Stmt} {asg : List Nat} {f : Env → Out Res} (i : Nat) (h : HS X W sts asg f) : HS X W sts ([i] ++ asg) (fun ρ => f (thawE ρ i)) := hs_pre (fun ρ => thawE ρ i) (fun F Gs Hs H σ ρ r => r.thaw i) (fun ρ j hj => thawE_out hj) h
section
variable {X : Cx} {W : WX} {tg : Expr} {pos p1 : Pos} {x : Str}
theorem grow_less {Gs F Hs H : Hp} {p : Addr} {o : HO} (hF : F p = none) (g : Grow Gs (upd F p o) Hs H) : Grow Gs F Hs H :=
  ⟨fun a u z => g.h a u (by rw [upd_ne fun y => by rw [y, hF] at z; cases z]; exact z), g.s, g.sh, fun a z1 z2 => g.ap a z1 (by rw [upd_ne fun y => z2 (by rw [y]; exact hF)]; exact z2)⟩
theorem hs_forO (i : Nat) {body : List Stmt} {g : TG} {asg asg' : List Nat} {k : D → Env → Out Env} {f : Env → Out Res} (po : PassesOwn (model X.prog X.w) X.A X.env X.xe) (hc : X.calm = true) (hg : HG X tg g asg k) (hb : HS X W body asg' f) (ni : i ∉ asg ++ asg')
    (hN : X.N[i]? = some x := by rfl) (hv : Vis X.env.scope x := by first | exact Or.inl rfl | exact Or.inr (Or.inl rfl) | exact Or.inr (Or.inr rfl)) (hd : (x == ("__debug__" : Str)) = false := by decide)
    (hcd : (x == ("__classdict__" : Str)) = false := by decide)
    (hs : ∀ y, foldedSetIterable (.Name x p1) X.env y = pure y := by intro _; rfl) : HS1 X W (.For tg (.Name x p1) body [] pos) (asg ++ asg') (sForO i k f) := by
  refine ⟨PS.imp (ps_for po hc (pi_list (pe_var hN hv hd hcd)) hg.pg hb.pss hs) fun D σ H ⟨F, Gs, Hs, ρ, r, p⟩ => ?_, fun ρ ρ' e j hj => ?_⟩
  · unfold sForO kForO0 at p
    split at p
    · rename_i ds eq
      obtain ⟨q, vs, e1, h1, h2, f1, f2, r0⟩ := r.lendOut eq
      have g2 : Gs q = none := none_of_ex r.gr.s f2
      have il : i < ρ.length := (List.getElem?_eq_some_iff.mp eq).1
      refine ⟨.ref q, e1, q, rfl, ⟨vs, SqL.of h1⟩, ?_⟩
      have hJ : ItD X.K (upd F q (.lst vs)) Hs ds (Itl X.K q) := itd_list upd_same h2
      have p1 : PostS X.K X.mg W (asg ++ asg') F Gs Hs σ ((loopD k f ds (ρ.set i none)).bind (kForO i ds)) D := p
      refine ⟨fun j m σ' H' => ∃ Hs' ρ', m = ds.length - j ∧ j ≤ ds.length ∧ Rep X.K X.mg (upd F q (.lst vs)) Gs Hs' H' σ' ρ' ∧ σ'[i]? = σ[i]? ∧ Ex Hs Hs' ∧ PostS X.K X.mg W (asg ++ asg') F Gs Hs' σ' ((loopD k f (ds.drop j) ρ').bind (kForO i ds)) D, ⟨ds.length, Hs, ρ.set i none, by simp, Nat.zero_le _, r0, rfl, Ex.refl _, p1⟩, ?_⟩
      rintro j m σ' H' ⟨Hs', ρ', rfl, hle, r', es', e', p'⟩
      obtain ⟨j1, j2⟩ := hJ j H' r'.gr.h
      have il' : i < ρ'.length := by rw [← r'.len]; exact (List.getElem?_eq_some_iff.mp (es'.trans e1)).1
      cases z0 : ds[j]? with
      | none =>
        refine .inl ⟨j2 z0, ?_⟩
        have : ds.drop j = [] := by
          rw [List.drop_eq_nil_iff]
          exact List.getElem?_eq_none_iff.mp z0
        rw [this] at p'
        have p' : ∀ σ2 Hs2 H2, Rep X.K X.mg F Gs Hs2 H2 σ2 (ρ'.set i (some (.l ds))) → Ex Hs' Hs2 → (∀ i, i ∉ asg ++ asg' → σ2[i]? = σ'[i]?) → D.nx σ2 H2 := p'
        exact p' σ' Hs' H' (r'.lendBack (es'.trans e1) il' (IsAll.mono e' _ h2) f1 g2) (Ex.refl _) fun _ _ => rfl
      | some d =>
        obtain ⟨jg, jy⟩ := j1 d z0
        have hlt : j < ds.length := (List.getElem?_eq_some_iff.mp z0).1
        have hdr : ds.drop j = d :: ds.drop (j + 1) := by
          rw [List.drop_eq_getElem_cons hlt]
          have := (List.getElem?_eq_some_iff.mp z0).2
          rw [this]
        rw [hdr] at p'
        unfold loopD at p'
        refine .inr ⟨jg, fun σ2 H2 => ∃ Hs' ρ', j + 1 ≤ ds.length ∧ Rep X.K X.mg (upd F q (.lst vs)) Gs Hs' H2 σ2 ρ' ∧ σ2[i]? = σ[i]? ∧ Ex Hs Hs' ∧ PostS X.K X.mg W (asg ++ asg') F Gs Hs' σ2 ((loopD k f (ds.drop (j + 1)) ρ').bind (kForO i ds)) D, fun σ2 H2 ⟨Hs2, ρ2, a1, a2, a3, a4, a5⟩ => ⟨ds.length - (j + 1), by omega, Hs2, ρ2, rfl, a1, a2, a3, a4, a5⟩, fun xv H2 y => ?_⟩
        obtain ⟨rfl, hx⟩ := jy xv H2 y
        cases z : k d ρ' with
        | ok ρ1 =>
          rw [z] at p'
          refine hg.r.rd (upd F q (.lst vs)) Gs Hs' H2 σ' ρ' d xv _ ρ1 r' (Is.mono e' d hx) z fun σ1 r1 k1 => ⟨upd F q (.lst vs), Gs, Hs', ρ1, r1, ?_⟩
          have p' : PostS X.K X.mg W (asg ++ asg') F Gs Hs' σ' (((f ρ1).bind fun r => match r with | .next ρ2 => loopD k f (ds.drop (j + 1)) ρ2 | .ret s => .ok (.ret s)).bind (kForO i ds)) D := p'
          cases z2 : f ρ1 with
          | ok r2 =>
            rw [z2] at p'
            cases r2 with
            | next ρ2 => exact fun σ2 Hs2 H3 r2 e2 k2 => ⟨Hs2, ρ2, hlt, r2, ((k2 i fun zz => ni (List.mem_append_right _ zz)).trans (k1 i fun zz => ni (List.mem_append_left _ zz))).trans es', e'.trans e2, PostS.mono p' e2 fun j hj => (k2 j fun zz => hj (List.mem_append_right _ zz)).trans (k1 j fun zz => hj (List.mem_append_left _ zz))⟩
            | ret s =>
              have p' : ∀ v Hs' H', Grow Gs F Hs' H' → Rs X.K X.mg F Hs' H' s v → D.rt v H' := p'
              refine fun v Hs3 H3 g3 ⟨fp, o, ff, nn⟩ => p' v Hs3 H3 (grow_less f1 g3) ⟨fp, o, fun a ha => ⟨?_, (ff a ha).2⟩, nn⟩
              have := (ff a ha).1
              by_cases ya : a = q
              · rw [ya]; exact f1
              · rw [upd_ne ya] at this; exact this
          | exc c p2 => rw [z2] at p'; exact fun cls dd σ3 Hs3 H3 g3 h3 => p' cls dd σ3 Hs3 H3 (grow_less f1 g3) h3
          | stuck => rw [z2] at p'; exact p'
        | exc c p2 => exact (hg.r.exc d ρ' c p2 z).elim
        | stuck => rw [z] at p'; exact p'.elim
    · exact p.elim
  · unfold sForO kForO0 at e
    split at e
    · rename_i ds eq
      obtain ⟨rr, e1, e⟩ := bind_next e
      cases rr with
      | next ρ2 =>
        cases e
        have h := fix_loop hg.r.fix hb.fix ds (ρ.set i none) ρ2 e1
        by_cases hij : j = i
        · subst hij
          have h0 := h j hj
          rw [List.getElem?_set_self (List.getElem?_eq_some_iff.mp eq).1] at h0
          have jl : j < ρ2.length := by
            cases q : ρ2[j]? with
            | none => rw [q] at h0; cases h0
            | some o => exact (List.getElem?_eq_some_iff.mp q).1
          rw [List.getElem?_set_self jl, eq]
        · rw [List.getElem?_set_ne (Ne.symm hij), h j hj, List.getElem?_set_ne (Ne.symm hij)]
      | ret s => cases e
    · cases e
end
end G

set_option Elab.async false
set_option linter.all false
set_option maxRecDepth 100000
set_option maxHeartbeats 4000000
namespace G
open PySem PySem.Spec PyProof.Rows L2
open Evl (Ex ex_l ex_t ex_rd)
theorem lit_i {i : Int} {t : Tok} : LitR (.int i) (.int i t) := ⟨t, rfl⟩
theorem lit_s {i : Str} {t : Tok} : LitR (.str i) (.str i t) := ⟨t, rfl⟩
theorem fix_lcN {i : Nat} {el : Env → Out (Env × D)} {vs : List Nat} (hi : i ∈ vs) (he : FixX vs el) : ∀ (ds : List D) (ρ : Env) (y : Env × List D), lcX (kName i) el vs ds ρ = .ok y → ∀ j, j ∉ vs → mq y.1[j]? = mq ρ[j]?
  | [], ρ, y, e, j, _ => by unfold lcX at e; cases e; rfl
  | d :: ds, ρ, y, e, j, hj => by
    unfold lcX at e
    obtain ⟨ρ1, z1, e⟩ := bind_ok e
    obtain ⟨xx, z2, e⟩ := bind_ok e
    obtain ⟨y', z3, e⟩ := bind_ok e
    cases e
    have h3 := fix_lcN hi he ds _ y' z3 j hj
    rw [wipeE_get, if_neg hj] at h3
    have z1 := noX_ok z1
    unfold kName at z1
    cases z1
    have hji : j ≠ i := fun z => hj (z ▸ hi)
    rw [h3, he _ xx (noX_ok z2) j hj, List.getElem?_set_ne (Ne.symm hji)]
theorem fixX_lcN (i : Nat) {it : Env → Out (List D)} {el : Env → Out (Env × D)} {vs : List Nat} (he : FixX vs el) (hi : i ∈ vs := by decide) : FixX vs (xLc vs it (kName i) el) := fun ρ y e j hj => by
  unfold xLc at e
  obtain ⟨ds, _, e⟩ := bind_ok e
  obtain ⟨_, e⟩ := guard_eq e
  obtain ⟨y', z, e⟩ := bind_ok e
  cases e
  have := fix_lcN hi he ds _ y' z j hj
  rw [wipeE_get, if_neg hj] at this
  exact this
end G

set_option Elab.async false
set_option linter.all false
set_option maxRecDepth 100000
set_option maxHeartbeats 4000000
namespace G
open PySem L2
/-! ### to evaluate denotations -/
theorem ok_bind {α β : Type} {a : α} {f : α → Out β} : (Out.ok a).bind f = f a := (rfl)
theorem bind_exc {α β : Type} {c : Str} {p : Option Int} {f : α → Out β} : (Out.exc c p : Out α).bind f = .exc c p := (rfl)
theorem bind_stuck {α β : Type} {f : α → Out β} : (Out.stuck : Out α).bind f = .stuck := (rfl)
theorem guard_t {α : Type} {c : Prop} [Decidable c] {r : Out α} (h : c) : guard' c r = r := if_pos h
theorem guard_tt {α : Type} [Decidable True] {r : Out α} : guard' True r = r := if_pos trivial
theorem oOf_some {α : Type} {a : α} : oOf (some a) = .ok a := (rfl)
theorem mod_i {a b : Int} (h : 0 < b) : modD (.int a) (.int b) = .ok (.int (a % b)) := guard_t h
theorem mul_i {a b : Int} (h : mulOk a b) : mulD (.int a) (.int b) = .ok (.int (a * b)) := guard_t h
theorem div_i {a b : Int} (h : divOk b) : divD (.int a) (.int b) = .ok (.int (a / b)) := guard_t h
theorem pow_i {a b : Int} (h : powOk a b) : powD (.int a) (.int b) = .ok (.int (a ^ b.toNat)) := guard_t h
theorem mulOk_l {a b : Int} (h : -18446744073709551616 < a ∧ a < 18446744073709551616) : mulOk a b := .inl (by omega)
theorem mulOk_r {a b : Int} (h : -18446744073709551616 < b ∧ b < 18446744073709551616) : mulOk a b := .inr (.inl (by omega))
theorem divOk_s {b : Int} (h : 0 < b ∧ b < 18446744073709551616) : divOk b := ⟨h.1, Nat.lt_of_lt_of_le (show b.natAbs < 2 ^ 64 by omega) (Nat.pow_le_pow_right (by decide) (by decide))⟩
theorem atI_nn {α : Type} {xs : List α} {i : Int} (h : 0 ≤ i) : atI xs i = xs[i.toNat]? := by
  unfold atI ixN
  rw [if_pos h]
  split
  · rfl
  · rw [List.getElem?_eq_none (by omega)]; rfl
theorem atI_m1 {α : Type} {xs : List α} : atI xs (-1) = xs.getLast? := by
  unfold atI ixN
  cases xs with
  | nil => rfl
  | cons x r =>
    rw [if_neg (by decide), if_pos (by simp only [List.length_cons]; omega), List.getLast?_eq_getElem?]
    show (x :: r)[_]? = _
    congr 1
    simp only [List.length_cons]; omega
theorem rng1_i {j : Int} (h : -1000000000 ≤ j ∧ j ≤ 1000000000) : rng1 [.int j] = .ok (rngL 0 j.toNat) := guard_t h
theorem noX_k {α : Type} {a : α} : noX (.ok a) = .ok a := (rfl)
/-- a loop that goes to its end -/
theorem loop_map {α β : Type} (env : α → Env) (g : β → D) (step : α → β → α) (I : α → Prop) {k : D → Env → Out Env} {f : Env → Out Res} : ∀ (L : List β) (h : ∀ a x, x ∈ L → I a → I (step a x) ∧ ((k (g x) (env a)).bind fun ρ1 => f ρ1) = .ok (.next (env (step a x)))) (a : α), I a →
    loopD k f (L.map g) (env a) = .ok (.next (env (L.foldl step a))) ∧ I (L.foldl step a)
  | [], _, a, ha => ⟨rfl, ha⟩
  | x :: L, h, a, ha => by
    obtain ⟨h1, h2⟩ := h a x List.mem_cons_self ha
    obtain ⟨h3, h4⟩ := loop_map env g step I L (fun a y hy => h a y (List.mem_cons_of_mem _ hy)) (step a x) h1
    refine ⟨?_, h4⟩
    rw [List.map_cons]
    unfold loopD
    cases q : k (g x) (env a) with
    | ok ρ1 => rw [q] at h2; have h2 : f ρ1 = _ := h2; rw [ok_bind, h2, ok_bind]; exact h3
    | exc c p => rw [q] at h2; cases h2
    | stuck => rw [q] at h2; cases h2
/-- .. by places -/
theorem loop_at {k : D → Env → Out Env} {f : Env → Out Res} (env : Nat → Env) : ∀ (ds : List D) (i0 : Nat) (h : ∀ i d, ds[i]? = some d → ((k d (env (i0 + i))).bind fun ρ1 => f ρ1) = .ok (.next (env (i0 + i + 1)))),
    loopD k f ds (env i0) = .ok (.next (env (i0 + ds.length)))
  | [], _, _ => rfl
  | d :: ds, i0, h => by
    have h2 := h 0 d rfl
    have h3 := loop_at env ds (i0 + 1) fun i d' e => by
      have := h (i + 1) d' (by simpa using e)
      rw [show i0 + 1 + i = i0 + (i + 1) by omega]; exact this
    unfold loopD
    rw [Nat.add_zero] at h2
    cases q : k d (env i0) with
    | ok ρ1 =>
      rw [q] at h2
      have h2 : f ρ1 = _ := h2
      rw [ok_bind, h2, ok_bind, show i0 + (d :: ds).length = i0 + 1 + ds.length by simp only [List.length_cons]; omega]; exact h3
    | exc c p => rw [q] at h2; cases h2
    | stuck => rw [q] at h2; cases h2
theorem lc_map {β : Type} (g : β → D) (h : β → D) {k : D → Env → Out Env} {el : Env → Out D} {ρ : Env} : ∀ (L : List β), (∀ x ∈ L, ((k (g x) ρ).bind fun ρ1 => el ρ1) = .ok (h x)) → lcD k yesT el ρ (L.map g) = .ok (L.map h)
  | [], _ => rfl
  | x :: L, hx => by
    have h1 := hx x List.mem_cons_self
    rw [List.map_cons, List.map_cons]
    unfold lcD
    cases q : k (g x) ρ with
    | ok ρ1 =>
      rw [q] at h1
      have h1 : el ρ1 = _ := h1
      show (noX (.ok ρ1)).bind _ = _
      rw [noX_k, ok_bind, show yesT ρ1 = .ok true from rfl, noX_k, ok_bind, if_pos rfl, h1, noX_k, ok_bind, lc_map g h L fun y hy => hx y (List.mem_cons_of_mem _ hy), ok_bind]
    | exc c p => rw [q] at h1; cases h1
    | stuck => rw [q] at h1; cases h1
theorem rngL_map (n : Nat) : rngL 0 n = (List.range n).map fun i => D.int (i : Nat) := by unfold rngL; simp only [Int.zero_add]
theorem rngL_len (lo : Int) (n : Nat) : (rngL lo n).length = n := by unfold rngL; rw [List.length_map, List.length_range]
theorem rngL_get0 {n i : Nat} {d : D} (h : (rngL 0 n)[i]? = some d) : i < n ∧ d = .int (i : Nat) := by
  obtain ⟨h1, h2⟩ := rngL_get h
  exact ⟨h1, by rw [h2, Int.zero_add]⟩
theorem bls_map {β : Type} (h : β → Bool) : ∀ L : List β, blsOf (L.map fun x => .bl (h x)) = some (L.map h)
  | [] => rfl
  | x :: L => by rw [List.map_cons]; unfold blsOf; rw [bls_map h L]; rfl
theorem ints_map {β : Type} (h : β → Int) : ∀ L : List β, intsOf (L.map fun x => .int (h x)) = some (L.map h)
  | [] => rfl
  | x :: L => by rw [List.map_cons]; unfold intsOf; rw [ints_map h L]; rfl
theorem all_map {β : Type} (h : β → Bool) (L : List β) : allD [.lst (L.map fun x => .bl (h x))] = .ok (.bl (L.all h)) := by
  show oOf (Option.map _ (blsOf _)) = _
  rw [bls_map]
  show Out.ok (D.bl _) = _
  rw [List.all_map]; rfl
theorem ints_refl : ∀ ns : List Int, PyData.eqvAll (ns.map .int) (ns.map .int) = true
  | [] => by simp only [List.map_nil, PyData.eqvAll]
  | n :: ns => by simp only [List.map_cons, PyData.eqvAll, PyData.eqv, ints_refl ns, BEq.rfl, Bool.and_self]
mutual
theorem eqv_refl : ∀ d : D, eqv d d = true
  | .non => eqv_nn
  | .bl _ => by rw [eqv_bb]; simp
  | .int _ => by rw [eqv_ii]; simp
  | .str _ => by rw [eqv_ss]; simp
  | .lst xs => by rw [eqv_ll]; exact eqvAll_refl xs
  | .tup xs => by rw [eqv_tt]; exact eqvAll_refl xs
  | .scr xs => by simp only [eqv, py, PyData.eqv]; exact ints_refl xs
theorem eqvAll_refl : ∀ xs : List D, eqvAll xs xs = true
  | [] => eqvAll_nil
  | x :: xs => by rw [eqvAll_cc, eqv_refl x, eqvAll_refl xs]; rfl
end
theorem eqD_ii (a b : Int) : eqD (.int a) (.int b) = .ok (.bl (a == b)) := by unfold eqD; rw [guard_t (show eqOk (.int a) (.int b) from rfl), eqv_ii]
theorem neD_ii (a b : Int) : neD (.int a) (.int b) = .ok (.bl (!(a == b))) := by unfold neD; rw [guard_t (show eqOk (.int a) (.int b) from rfl), eqv_ii]
theorem eqD_in (a : Int) : eqD (.int a) .non = .ok (.bl false) := by unfold eqD; rw [guard_t (show eqOk (.int a) .non from rfl), eqv_in]
theorem neD_in (a : Int) : neD (.int a) .non = .ok (.bl true) := by unfold neD; rw [guard_t (show eqOk (.int a) .non from rfl), eqv_in]; rfl
theorem eqD_ss (a b : Str) : eqD (.str a) (.str b) = .ok (.bl (a == b)) := by unfold eqD; rw [guard_t (show eqOk (.str a) (.str b) from rfl), eqv_ss]
theorem isi_int (a : Int) : isiD "int" (.int a) = .ok (.bl true) := by unfold isiD; rw [guard_t (show tyN (.int a) ≠ "?" from (by decide : ("int" : String) ≠ "?"))]; rfl
theorem isi_bool (a : Int) : isiD "bool" (.int a) = .ok (.bl false) := by unfold isiD; rw [guard_t (show tyN (.int a) ≠ "?" from (by decide : ("int" : String) ≠ "?"))]; rfl
theorem isi_tup (xs : List D) : isiD "tuple" (.tup xs) = .ok (.bl true) := by unfold isiD; rw [guard_t (show tyN (.tup xs) ≠ "?" from (by decide : ("tuple" : String) ≠ "?"))]; rfl
theorem isi_lst (xs : List D) : isiD "list" (.lst xs) = .ok (.bl true) := by unfold isiD; rw [guard_t (show tyN (.lst xs) ≠ "?" from (by decide : ("list" : String) ≠ "?"))]; rfl
theorem fz_d {d : D} : (S.d d).fz = .ok d := (rfl)
theorem fz_l {d : List D} : (S.l d).fz = .ok (.lst d) := (rfl)
theorem fz_ll {d : List (List D)} : (S.ll d).fz = .ok (.lst (d.map .lst)) := (rfl)
/-! ### for simp with side goals -/
theorem gle {α : Type} {n : Nat} {r : Out α} (h : n ≤ 1000000) : guard' (n ≤ cap) r = r := guard_t h
theorem glt {α : Type} {n : Nat} {r : Out α} (h : n < 1000000) : guard' (n < cap) r = r := guard_t h
theorem mulL {a b : Int} (h : -18446744073709551616 < a ∧ a < 18446744073709551616) : mulD (.int a) (.int b) = .ok (.int (a * b)) := mul_i (mulOk_l h)
theorem mulR {a b : Int} (h : -18446744073709551616 < b ∧ b < 18446744073709551616) : mulD (.int a) (.int b) = .ok (.int (a * b)) := mul_i (mulOk_r h)
theorem divP {a b : Int} (h : 0 < b ∧ b < 18446744073709551616) : divD (.int a) (.int b) = .ok (.int (a / b)) := div_i (divOk_s h)
theorem modP {a b : Int} (h : 0 < b) : modD (.int a) (.int b) = .ok (.int (a % b)) := mod_i h
theorem rng1P {j : Int} (h : -1000000000 ≤ j ∧ j ≤ 1000000000) : rng1 [.int j] = .ok (rngL 0 j.toNat) := guard_t h
theorem rng2P {i j : Int} (h : (-1000000000 ≤ i ∧ i ≤ 1000000000) ∧ -1000000000 ≤ j ∧ j ≤ 1000000000) : rng2 [.int i, .int j] = .ok (rngL i (j - i).toNat) := guard_t h
theorem at0 {α : Type} (x : α) (r : List α) : atI (x :: r) 0 = some x := by rw [atI_nn (by decide)]; rfl
theorem at1 {α : Type} (x y : α) (r : List α) : atI (x :: y :: r) 1 = some y := by rw [atI_nn (by decide)]; rfl
theorem at2 {α : Type} (x y z : α) (r : List α) : atI (x :: y :: z :: r) 2 = some z := by rw [atI_nn (by decide)]; rfl
theorem at3 {α : Type} (x y z u : α) (r : List α) : atI (x :: y :: z :: u :: r) 3 = some u := by rw [atI_nn (by decide)]; rfl
theorem at4 {α : Type} (x y z u v : α) (r : List α) : atI (x :: y :: z :: u :: v :: r) 4 = some v := by rw [atI_nn (by decide)]; rfl
theorem atm1a {α : Type} (x : α) : atI [x] (-1) = some x := by rw [atI_m1]; rfl
theorem atm1b {α : Type} (x y : α) : atI [x, y] (-1) = some y := by rw [atI_m1]; rfl
theorem atm1c {α : Type} (x y z : α) : atI [x, y, z] (-1) = some z := by rw [atI_m1]; rfl
theorem atm1s {α : Type} (l : List α) (x : α) : atI (l ++ [x]) (-1) = some x := by rw [atI_m1]; simp
theorem atNat {α : Type} {xs : List α} {i : Nat} : atI xs (i : Int) = xs[i]? := by rw [atI_nn (by omega), Int.toNat_natCast]
theorem cut_tail {α : Type} (x : α) (r : List α) : cutD (x :: r) (some 1) none = r := by
  unfold cutD
  rw [show HT.sIx (x :: r).length 0 (some 1) = min 1 (x :: r).length from HT.sIx_nat _ 0 1, HT.sIx_none, show min 1 (x :: r).length = 1 by rw [List.length_cons]; omega]
  show List.take _ r = r
  rw [List.length_cons, Nat.add_sub_cancel]
  exact List.take_length
/-- a while by a run of its states -/
theorem while_up {t : Env → Out Bool} {f : Env → Out Res} (env : Nat → Env) (n : Nat) (ht : ∀ i, i < n → t (env i) = .ok true ∧ f (env i) = .ok (.next (env (i + 1)))) (hn : t (env n) = .ok false) : ∀ (fuel i : Nat), i ≤ n → n - i < fuel → whileD t f fuel (env i) = .ok (.next (env n))
  | 0, _, _, h => by omega
  | fuel + 1, i, hi, h => by
    unfold whileD
    by_cases e : i = n
    · subst e; rw [hn]; rfl
    · obtain ⟨h1, h2⟩ := ht i (by omega)
      rw [h1, ok_bind, if_pos rfl, h2, ok_bind]
      exact while_up env n ht hn fuel (i + 1) (by omega) (by omega)
/-- a while by a measure -/
theorem while_m {α : Type} (env : α → Env) (go : α → Option α) (m : α → Nat) {t : Env → Out Bool} {f : Env → Out Res} (I : α → Prop) (last : α → α)
    (h : ∀ a, I a → (go a = none → t (env a) = .ok false ∧ last a = a) ∧ ∀ b, go a = some b → t (env a) = .ok true ∧ f (env a) = .ok (.next (env b)) ∧ I b ∧ m b < m a ∧ last a = last b) : ∀ (fuel : Nat) (a : α), I a → m a < fuel → whileD t f fuel (env a) = .ok (.next (env (last a)))
  | 0, _, _, h => by omega
  | fuel + 1, a, ha, hm => by
    obtain ⟨h1, h2⟩ := h a ha
    unfold whileD
    cases q : go a with
    | none => obtain ⟨h3, h4⟩ := h1 q; rw [h3, ok_bind, if_neg Bool.false_ne_true, h4]
    | some b =>
      obtain ⟨h3, h4, h5, h6, h7⟩ := h2 b q
      rw [h3, ok_bind, if_pos rfl, h4, ok_bind, h7]
      exact while_m env go m I last h fuel b h5 (by omega)
end G

set_option Elab.async false
set_option linter.all false
set_option maxRecDepth 100000
set_option maxHeartbeats 4000000
namespace G
open PySem L2
/-! ### one step at a time: each lemma names what is left to do -/
section
variable {α β : Type} {ρ ρ' : Env} {f g h : Env → Out Res} {d x y z : D} {s : S} {i j l : Nat} {b : Bool} {xs ys ds : List D} {xss : List (List D)}

def kSeq (g : Env → Out Res) : Res → Out Res
  | .next ρ => g ρ
  | .ret s => .ok (.ret s)
theorem e_seq : sSeq f g ρ = (f ρ).bind (kSeq g) := by unfold sSeq; exact congrArg _ (funext fun r => by cases r <;> rfl)
theorem e_seqn : kSeq g (.next ρ) = g ρ := (rfl)
theorem e_seqr : kSeq g (.ret s) = .ok (.ret s) := (rfl)
def kIf (f g : Env → Out α) (ρ : Env) : Bool → Out α
  | true => f ρ
  | false => g ρ
theorem e_if {t : Env → Out Bool} : sIf t f g ρ = (t ρ).bind (kIf f g ρ) := by unfold sIf; exact congrArg _ (funext fun b => by cases b <;> rfl)
theorem e_dif {t : Env → Out Bool} {f g : Env → Out α} : dIf t f g ρ = (t ρ).bind (kIf f g ρ) := by unfold dIf; exact congrArg _ (funext fun b => by cases b <;> rfl)
theorem e_ift {f g : Env → Out α} : kIf f g ρ true = f ρ := (rfl)
theorem e_iff {f g : Env → Out α} : kIf f g ρ false = g ρ := (rfl)
def kRet (s : S) : Out Res := .ok (.ret s)
theorem e_ret {f : Env → Out S} : sRet f ρ = (f ρ).bind kRet := (rfl)
theorem e_kret : kRet s = .ok (.ret s) := (rfl)
def kRetV : Option (Option S) → Out Res
  | some (some s) => .ok (.ret s)
  | _ => .stuck
theorem e_retv : sRetV i ρ = kRetV ρ[i]? := by unfold sRetV; generalize ρ[i]? = o; rcases o with _ | _ | s <;> first | rfl | (cases s <;> first | rfl | (rename_i d; cases d <;> rfl))
theorem e_kretv : kRetV (some (some s)) = .ok (.ret s) := (rfl)
theorem e_retn : sRetN ρ = .ok (.ret (.d .non)) := (rfl)
def kAsg (i : Nat) (ρ : Env) (d : D) : Out Res := .ok (.next (ρ.set i (some (.d d))))
theorem e_asg {f : Env → Out D} : sAsg i f ρ = (f ρ).bind (kAsg i ρ) := (rfl)
theorem e_kasg : kAsg i ρ d = .ok (.next (ρ.set i (some (.d d)))) := (rfl)
def kAsgE (i : Nat) (ρ : Env) (s : S) : Out Res := .ok (.next (ρ.set i (some s)))
theorem e_asge {f : Env → Out S} : sAsgE i f ρ = (f ρ).bind (kAsgE i ρ) := (rfl)
theorem e_kasge : kAsgE i ρ s = .ok (.next (ρ.set i (some s))) := (rfl)
def kDrop {α : Type} (ρ : Env) (_ : α) : Out Res := .ok (.next ρ)
theorem e_drop {f : Env → Out α} : sDrop f ρ = (f ρ).bind (kDrop ρ) := (rfl)
theorem e_kdrop {a : α} : kDrop ρ a = .ok (.next ρ) := (rfl)
theorem e_next : sNext ρ = .ok (.next ρ) := (rfl)
theorem e_exc {c : Str} : sExc c ρ = .exc c none := (rfl)
def kMutS (i : Nat) (ρ : Env) (ys : List D) : Out Res := .ok (.next (ρ.set i (some (.l ys))))
theorem e_muts : kMutS i ρ ys = .ok (.next (ρ.set i (some (.l ys)))) := (rfl)
def kMutB {α : Type} (i : Nat) (k : List D → α → Out (List D)) (ρ : Env) (xs : List D) (a : α) : Out Res := (k xs a).bind (kMutS i ρ)
theorem e_mutb {k : List D → α → Out (List D)} {a : α} : kMutB i k ρ xs a = (k xs a).bind (kMutS i ρ) := (rfl)
def kMut {α : Type} (i : Nat) (f : Env → Out α) (k : List D → α → Out (List D)) (ρ : Env) : Option (Option S) → Out Res
  | some (some (.l xs)) => (f ρ).bind (kMutB i k ρ xs)
  | _ => .stuck
theorem e_mut {f : Env → Out α} {k : List D → α → Out (List D)} : sMut i f k ρ = kMut i f k ρ ρ[i]? := by unfold sMut; generalize ρ[i]? = o; rcases o with _ | _ | s <;> first | rfl | (cases s <;> first | rfl | (rename_i d; cases d <;> rfl))
theorem e_kmut {f : Env → Out α} {k : List D → α → Out (List D)} : kMut i f k ρ (some (some (.l xs))) = (f ρ).bind (kMutB i k ρ xs) := (rfl)
theorem e_app : kApp xs d = guard' (xs.length < cap) (.ok (xs ++ [d])) := (rfl)
theorem e_ext : kExt xs (.lst ys) = guard' (xs.length + ys.length ≤ cap) (.ok (xs ++ ys)) := (rfl)
theorem e_ins {n : Int} : kIns xs [.int n, d] = guard' (xs.length < cap ∧ 0 ≤ n ∧ n ≤ 1000000000) (.ok (xs.take n.toNat ++ [d] ++ xs.drop n.toNat)) := (rfl)
def kSetB (i : Nat) (d : D) (ρ : Env) (xs : List D) (z : D) : Out Res := (kSet xs (z, d)).bind (kMutS i ρ)
theorem e_setb : kSetB i d ρ xs z = (kSet xs (z, d)).bind (kMutS i ρ) := (rfl)
def kSetA (i : Nat) (g : Env → Out D) (ρ : Env) (d : D) : Option (Option S) → Out Res
  | some (some (.l xs)) => (g ρ).bind (kSetB i d ρ xs)
  | _ => .stuck
theorem e_kset {g : Env → Out D} : kSetA i g ρ d (some (some (.l xs))) = (g ρ).bind (kSetB i d ρ xs) := (rfl)
def kSet0 (i : Nat) (g : Env → Out D) (ρ : Env) (d : D) : Out Res := kSetA i g ρ d ρ[i]?
theorem e_set {f g : Env → Out D} : sSet i f g ρ = (f ρ).bind (kSet0 i g ρ) := by
  unfold sSet; refine congrArg _ (funext fun d => ?_); unfold kSet0; generalize ρ[i]? = o; rcases o with _ | _ | s <;> first | rfl | (cases s <;> first | rfl | (rename_i d'; cases d' <;> rfl))
theorem e_set0 {g : Env → Out D} : kSet0 i g ρ d = kSetA i g ρ d ρ[i]? := (rfl)
def kNx (ρ : Env) : Out Res := .ok (.next ρ)
theorem e_nx : kNx ρ = .ok (.next ρ) := (rfl)
def kUnp (k : D → Env → Out Env) (ρ : Env) (d : D) : Out Res := (k d ρ).bind kNx
theorem e_unp {f : Env → Out D} {k : D → Env → Out Env} : sUnp f k ρ = (f ρ).bind (kUnp k ρ) := (rfl)
theorem e_kunp {k : D → Env → Out Env} : kUnp k ρ d = (k d ρ).bind kNx := (rfl)
def kPar (i j : Nat) (ρ : Env) : List D → Out Res
  | [d, d'] => .ok (.next ((ρ.set i (some (.d d))).set j (some (.d d'))))
  | _ => .stuck
theorem e_par {f : Env → Out (List D)} : sPar i j f ρ = (f ρ).bind (kPar i j ρ) := by unfold sPar; exact congrArg _ (funext fun ds => by rcases ds with _ | ⟨a, _ | ⟨b, _ | ⟨c, r⟩⟩⟩ <;> rfl)
theorem e_kpar {d' : D} : kPar i j ρ [d, d'] = .ok (.next ((ρ.set i (some (.d d))).set j (some (.d d')))) := (rfl)
def kPar3 (i j l : Nat) (ρ : Env) : List D → Out Res
  | [d, d', d''] => .ok (.next (((ρ.set i (some (.d d))).set j (some (.d d'))).set l (some (.d d''))))
  | _ => .stuck
theorem e_par3 {f : Env → Out (List D)} : sPar3 i j l f ρ = (f ρ).bind (kPar3 i j l ρ) := by unfold sPar3; exact congrArg _ (funext fun ds => by rcases ds with _ | ⟨a, _ | ⟨b, _ | ⟨c, _ | ⟨d, r⟩⟩⟩⟩ <;> rfl)
theorem e_kpar3 {d' d'' : D} : kPar3 i j l ρ [d, d', d''] = .ok (.next (((ρ.set i (some (.d d))).set j (some (.d d'))).set l (some (.d d'')))) := (rfl)
def kFor (k : D → Env → Out Env) (f : Env → Out Res) (ρ : Env) (ds : List D) : Out Res := loopD k f ds ρ
theorem e_for {it : Env → Out (List D)} {k : D → Env → Out Env} : sFor it k f ρ = (it ρ).bind (kFor k f ρ) := (rfl)
theorem e_kfor {k : D → Env → Out Env} : kFor k f ρ ds = loopD k f ds ρ := (rfl)
theorem e_while {n : Nat} {t : Env → Out Bool} : sWhile n t f ρ = whileD t f n ρ := (rfl)
def kTry (j i : Nat) (ρ : Env) : Out Res → Out Res
  | .ok r => .ok r
  | .exc c none => guard' (c ∈ exNames) (.ok (.next (((ρ.set i none).set j (some (.x c none))).set i none)))
  | _ => .stuck
theorem e_try : sTry j i f ρ = kTry j i ρ (f ρ) := by unfold sTry; generalize f ρ = o; rcases o with _ | ⟨c, _ | p⟩ | _ <;> rfl
theorem e_tryk {r : Res} : kTry j i ρ (.ok r) = .ok r := (rfl)
theorem e_tryx {c : Str} : kTry j i ρ (.exc c none) = guard' (c ∈ exNames) (.ok (.next (((ρ.set i none).set j (some (.x c none))).set i none))) := (rfl)
def kAppB (i : Nat) (xss : List (List D)) (ρ : Env) : S → Out Res
  | .l ys => guard' (xss.length < cap) (.ok (.next (ρ.set i (some (.ll (xss ++ [ys]))))))
  | _ => .stuck
theorem e_appb : kAppB i xss ρ (.l ys) = guard' (xss.length < cap) (.ok (.next (ρ.set i (some (.ll (xss ++ [ys])))))) := (rfl)
def kAppL (i : Nat) (f : Env → Out S) (ρ : Env) : Option (List (List D)) → Out Res
  | some xss => (f ρ).bind (kAppB i xss ρ)
  | none => .stuck
theorem e_kappl {f : Env → Out S} : kAppL i f ρ (some xss) = (f ρ).bind (kAppB i xss ρ) := (rfl)
def kApp0 (i : Nat) (f : Env → Out S) (ρ : Env) : Option (Option S) → Out Res
  | some (some s) => kAppL i f ρ (llOf s)
  | _ => .stuck
theorem e_appl {f : Env → Out S} : sAppL i f ρ = kApp0 i f ρ ρ[i]? := by
  unfold sAppL
  generalize ρ[i]? = o
  rcases o with _ | _ | s
  · rfl
  · rfl
  · show (match llOf s with | some xss => _ | none => _) = kAppL i f ρ (llOf s)
    generalize llOf s = o
    cases o with
    | none => rfl
    | some xss =>
      show (f ρ).bind _ = (f ρ).bind (kAppB i xss ρ)
      exact congrArg _ (funext fun t => by cases t <;> rfl)
theorem e_app0 {f : Env → Out S} : kApp0 i f ρ (some (some s)) = kAppL i f ρ (llOf s) := (rfl)
theorem e_llof1 : llOf (.ll xss) = some xss := (rfl)
theorem e_llof2 : llOf (.l []) = some [] := (rfl)
def kM2D (i : Nat) (xss : List (List D)) (j : Nat) (ρ : Env) (ys : List D) : Out Res := .ok (.next (ρ.set i (some (.ll (xss.set j ys)))))
theorem e_m2d : kM2D i xss j ρ ys = .ok (.next (ρ.set i (some (.ll (xss.set j ys))))) := (rfl)
def kM2C (i : Nat) (xss : List (List D)) (j : Nat) (k : List D → D → Out (List D)) (ρ : Env) (xs : List D) (d : D) : Out Res := (k xs d).bind (kM2D i xss j ρ)
theorem e_m2c {k : List D → D → Out (List D)} : kM2C i xss j k ρ xs d = (k xs d).bind (kM2D i xss j ρ) := (rfl)
def kM2B (i : Nat) (f : Env → Out D) (xss : List (List D)) (k : List D → D → Out (List D)) (ρ : Env) : D → Out Res
  | .int n => match ixN xss.length n with
    | some j => match xss[j]? with
      | some xs => (f ρ).bind (kM2C i xss j k ρ xs)
      | none => .stuck
    | none => .stuck
  | _ => .stuck
theorem e_m2b {f : Env → Out D} {k : List D → D → Out (List D)} {n : Int} (h1 : ixN xss.length n = some j) (h2 : xss[j]? = some xs) : kM2B i f xss k ρ (.int n) = (f ρ).bind (kM2C i xss j k ρ xs) := by
  unfold kM2B; simp only [h1, h2]
def kM2A (i : Nat) (g f : Env → Out D) (k : List D → D → Out (List D)) (ρ : Env) : Option (Option S) → Out Res
  | some (some (.ll xss)) => (g ρ).bind (kM2B i f xss k ρ)
  | _ => .stuck
theorem e_m2 {g f : Env → Out D} {k : List D → D → Out (List D)} : sMut2 i g f k ρ = kM2A i g f k ρ ρ[i]? := by
  unfold sMut2
  generalize ρ[i]? = o
  rcases o with _ | _ | s
  · rfl
  · rfl
  · cases s with
    | ll xss =>
      show (g ρ).bind _ = (g ρ).bind (kM2B i f xss k ρ)
      exact congrArg _ (funext fun z => by cases z <;> rfl)
    | _ => rfl
theorem e_m2a {g f : Env → Out D} {k : List D → D → Out (List D)} : kM2A i g f k ρ (some (some (.ll xss))) = (g ρ).bind (kM2B i f xss k ρ) := (rfl)
theorem e_rot : sRot i ρ = match ρ[i]? with | some (some (.l (x :: r))) => guard' (r.length < cap) (.ok (.next (ρ.set i (some (.l (r ++ [x])))))) | _ => .stuck := (rfl)
theorem e_c : dC d ρ = .ok d := (rfl)
def kV : Option (Option S) → Out D
  | some (some (.d d)) => .ok d
  | _ => .stuck
theorem e_v : dV i ρ = kV ρ[i]? := by unfold dV; generalize ρ[i]? = o; rcases o with _ | _ | s <;> first | rfl | (cases s <;> first | rfl | (rename_i d; cases d <;> rfl))
theorem e_kv : kV (some (some (.d d))) = .ok d := (rfl)
def kOwn : Option (Option S) → Out D
  | some (some s) => s.fz
  | _ => .stuck
theorem e_own : dOwn i ρ = kOwn ρ[i]? := by unfold dOwn; generalize ρ[i]? = o; rcases o with _ | _ | s <;> first | rfl | (cases s <;> first | rfl | (rename_i d; cases d <;> rfl))
theorem e_kown : kOwn (some (some s)) = s.fz := (rfl)
def kVS : Option (Option S) → Out S
  | some (some (.d d)) => .ok (.d d)
  | some (some (.x c p)) => .ok (.x c p)
  | some (some (.o c p)) => .ok (.o c p)
  | _ => .stuck
theorem e_vs : dVS i ρ = kVS ρ[i]? := by unfold dVS; generalize ρ[i]? = o; rcases o with _ | _ | s <;> first | rfl | (cases s <;> first | rfl | (rename_i d; cases d <;> rfl))
theorem e_kvs1 : kVS (some (some (.d d))) = .ok (.d d) := (rfl)
theorem e_kvs2 {c : Str} {p : Option Int} : kVS (some (some (.x c p))) = .ok (.x c p) := (rfl)
theorem e_kvs3 {c : Str} {p : List (Str × D)} : kVS (some (some (.o c p))) = .ok (.o c p) := (rfl)
def kIx (a : D) (y : D) : Out D := idxD a y
theorem e_kix : kIx x y = idxD x y := (rfl)
def kOix (g : Env → Out D) (ρ : Env) : Option (Option S) → Out D
  | some (some (.l xs)) => (g ρ).bind (kIx (.lst xs))
  | some (some (.d d)) => (g ρ).bind (kIx d)
  | _ => .stuck
theorem e_oix {g : Env → Out D} : dOix i g ρ = kOix g ρ ρ[i]? := by unfold dOix; generalize ρ[i]? = o; rcases o with _ | _ | s <;> first | rfl | (cases s <;> first | rfl | (rename_i d; cases d <;> rfl))
theorem e_koix1 {g : Env → Out D} : kOix g ρ (some (some (.l xs))) = (g ρ).bind (kIx (.lst xs)) := (rfl)
theorem e_koix2 {g : Env → Out D} : kOix g ρ (some (some (.d d))) = (g ρ).bind (kIx d) := (rfl)
def kOit : Option (Option S) → Out (List D)
  | some (some (.l xs)) => .ok xs
  | some (some (.d (.lst xs))) => .ok xs
  | _ => .stuck
theorem e_oit : dOit i ρ = kOit ρ[i]? := by unfold dOit; generalize ρ[i]? = o; rcases o with _ | _ | s <;> first | rfl | (cases s <;> first | rfl | (rename_i d; cases d <;> rfl))
theorem e_koit1 : kOit (some (some (.l xs))) = .ok xs := (rfl)
theorem e_koit2 : kOit (some (some (.d (.lst xs)))) = .ok xs := (rfl)
def k2B {α : Type} (op : D → D → Out α) (x y : D) : Out α := op x y
theorem e_2b {op : D → D → Out α} : k2B op x y = op x y := (rfl)
def k2 {α : Type} (op : D → D → Out α) (g : Env → Out D) (ρ : Env) (x : D) : Out α := (g ρ).bind (k2B op x)
theorem e_2 {op : D → D → Out α} {f g : Env → Out D} : d2 op f g ρ = (f ρ).bind (k2 op g ρ) := (rfl)
theorem e_k2 {op : D → D → Out α} {g : Env → Out D} : k2 op g ρ x = (g ρ).bind (k2B op x) := (rfl)
def k1 {α : Type} (op : D → Out α) (x : D) : Out α := op x
theorem e_1 {op : D → Out α} {f : Env → Out D} : d1 op f ρ = (f ρ).bind (k1 op) := (rfl)
theorem e_k1 {op : D → Out α} : k1 op x = op x := (rfl)
theorem e_a {γ : Type} {op : α → Out γ} {f : Env → Out α} : dA op f ρ = (f ρ).bind op := (rfl)
def kToS (d : D) : Out S := .ok (.d d)
theorem e_tos {f : Env → Out D} : toS f ρ = (f ρ).bind kToS := (rfl)
theorem e_ktos : kToS d = .ok (.d d) := (rfl)
theorem e_anil : aNil ρ = .ok [] := (rfl)
def kConsB {α : Type} (a : α) (as : List α) : Out (List α) := .ok (a :: as)
theorem e_consb {a : α} {as : List α} : kConsB a as = .ok (a :: as) := (rfl)
def kCons' {α : Type} (g : Env → Out (List α)) (ρ : Env) (a : α) : Out (List α) := (g ρ).bind (kConsB a)
theorem e_acons {f : Env → Out D} {g : Env → Out (List D)} : aCons f g ρ = (f ρ).bind (kCons' g ρ) := (rfl)
theorem e_scons {f : Env → Out S} {g : Env → Out (List S)} : sCons f g ρ = (f ρ).bind (kCons' g ρ) := (rfl)
theorem e_kcons {g : Env → Out (List α)} {a : α} : kCons' g ρ a = (g ρ).bind (kConsB a) := (rfl)
theorem e_snil : sNil ρ = .ok [] := (rfl)
def kTupD (ds : List D) : Out D := guard' (ds.length ≤ cap) (.ok (.tup ds))
theorem e_tup {f : Env → Out (List D)} : tupD f ρ = (f ρ).bind kTupD := (rfl)
theorem e_ktup : kTupD ds = guard' (ds.length ≤ cap) (.ok (.tup ds)) := (rfl)
def kLstD (ds : List D) : Out S := guard' (ds.length ≤ cap) (.ok (.l ds))
theorem e_lst {f : Env → Out (List D)} : lstD f ρ = (f ρ).bind kLstD := (rfl)
theorem e_klst : kLstD ds = guard' (ds.length ≤ cap) (.ok (.l ds)) := (rfl)
def kSlcB (x : D) (lo hi : Option Int) : Out S := slcS x lo hi
theorem e_slcb {lo hi : Option Int} : kSlcB x lo hi = slcS x lo hi := (rfl)
def kSlcA (hi : Env → Out (Option Int)) (ρ : Env) (x : D) (lo : Option Int) : Out S := (hi ρ).bind (kSlcB x lo)
theorem e_slca {hi : Env → Out (Option Int)} {lo : Option Int} : kSlcA hi ρ x lo = (hi ρ).bind (kSlcB x lo) := (rfl)
def kSlc (lo hi : Env → Out (Option Int)) (ρ : Env) (x : D) : Out S := (lo ρ).bind (kSlcA hi ρ x)
theorem e_slc {f : Env → Out D} {lo hi : Env → Out (Option Int)} : dSlc f lo hi ρ = (f ρ).bind (kSlc lo hi ρ) := (rfl)
theorem e_kslc {lo hi : Env → Out (Option Int)} : kSlc lo hi ρ x = (lo ρ).bind (kSlcA hi ρ x) := (rfl)
theorem e_slc1 {lo hi : Option Int} : slcS (.lst xs) lo hi = .ok (.l (cutD xs lo hi)) := (rfl)
theorem e_slc2 {lo hi : Option Int} : slcS (.tup xs) lo hi = .ok (.d (.tup (cutD xs lo hi))) := (rfl)
theorem e_slc3 {x : Str} {lo hi : Option Int} : slcS (.str x) lo hi = guard' (x.length ≤ cap) (.ok (.d (.str ⟨(cutD x.cps.toList lo hi).toArray⟩))) := (rfl)
theorem e_ono : oNo ρ = .ok none := (rfl)
def kOso : D → Out (Option Int)
  | .int i => .ok (some i)
  | _ => .stuck
theorem e_oso {f : Env → Out D} : oSo f ρ = (f ρ).bind kOso := by unfold oSo; exact congrArg _ (funext fun d => by cases d <;> rfl)
theorem e_koso {n : Int} : kOso (.int n) = .ok (some n) := (rfl)
def kAnd (g : Env → Out Bool) (ρ : Env) : Bool → Out Bool
  | true => g ρ
  | false => .ok false
theorem e_and {f g : Env → Out Bool} : dAnd f g ρ = (f ρ).bind (kAnd g ρ) := by unfold dAnd; exact congrArg _ (funext fun b => by cases b <;> rfl)
theorem e_andt {g : Env → Out Bool} : kAnd g ρ true = g ρ := (rfl)
theorem e_andf {g : Env → Out Bool} : kAnd g ρ false = .ok false := (rfl)
def kOr (g : Env → Out Bool) (ρ : Env) : Bool → Out Bool
  | true => .ok true
  | false => g ρ
theorem e_or {f g : Env → Out Bool} : dOr f g ρ = (f ρ).bind (kOr g ρ) := by unfold dOr; exact congrArg _ (funext fun b => by cases b <;> rfl)
theorem e_ort {g : Env → Out Bool} : kOr g ρ true = .ok true := (rfl)
theorem e_orf {g : Env → Out Bool} : kOr g ρ false = g ρ := (rfl)
def kNot (b : Bool) : Out Bool := .ok (!b)
theorem e_not {f : Env → Out Bool} : dNot f ρ = (f ρ).bind kNot := (rfl)
theorem e_knot : kNot b = .ok (!b) := (rfl)
def kAndW (g : Env → Out D) (ρ : Env) (x : D) : Bool → Out D
  | true => g ρ
  | false => .ok x
def kOrW (g : Env → Out D) (ρ : Env) (x : D) : Bool → Out D
  | true => .ok x
  | false => g ρ
def kAndV (g : Env → Out D) (ρ : Env) (x : D) : Out D := (truD x).bind (kAndW g ρ x)
def kOrV (g : Env → Out D) (ρ : Env) (x : D) : Out D := (truD x).bind (kOrW g ρ x)
theorem e_andv {f g : Env → Out D} : dAndV f g ρ = (f ρ).bind (kAndV g ρ) := by unfold dAndV; refine congrArg _ (funext fun x => ?_); unfold kAndV; exact congrArg _ (funext fun b => by cases b <;> rfl)
theorem e_orv {f g : Env → Out D} : dOrV f g ρ = (f ρ).bind (kOrV g ρ) := by unfold dOrV; refine congrArg _ (funext fun x => ?_); unfold kOrV; exact congrArg _ (funext fun b => by cases b <;> rfl)
theorem e_kandv {g : Env → Out D} : kAndV g ρ x = (truD x).bind (kAndW g ρ x) := (rfl)
theorem e_korv {g : Env → Out D} : kOrV g ρ x = (truD x).bind (kOrW g ρ x) := (rfl)
theorem e_andwt {g : Env → Out D} : kAndW g ρ x true = g ρ := (rfl)
theorem e_andwf {g : Env → Out D} : kAndW g ρ x false = .ok x := (rfl)
theorem e_orwt {g : Env → Out D} : kOrW g ρ x true = .ok x := (rfl)
theorem e_orwf {g : Env → Out D} : kOrW g ρ x false = g ρ := (rfl)
def kChD (op' : D → D → Out D) (h : Env → Out D) (ρ : Env) (y : D) : Bool → Out D
  | true => (h ρ).bind (k2B op' y)
  | false => .ok (.bl false)
theorem e_chdt {op' : D → D → Out D} {h : Env → Out D} : kChD op' h ρ y true = (h ρ).bind (k2B op' y) := (rfl)
theorem e_chdf {op' : D → D → Out D} {h : Env → Out D} : kChD op' h ρ y false = .ok (.bl false) := (rfl)
def kChC (op' : D → D → Out D) (h : Env → Out D) (ρ : Env) (y z : D) : Out D := (toB z).bind (kChD op' h ρ y)
theorem e_chc {op' : D → D → Out D} {h : Env → Out D} : kChC op' h ρ y z = (toB z).bind (kChD op' h ρ y) := (rfl)
def kChB (op op' : D → D → Out D) (h : Env → Out D) (ρ : Env) (x y : D) : Out D := (op x y).bind (kChC op' h ρ y)
theorem e_chb {op op' : D → D → Out D} {h : Env → Out D} : kChB op op' h ρ x y = (op x y).bind (kChC op' h ρ y) := (rfl)
def kCh (op op' : D → D → Out D) (g h : Env → Out D) (ρ : Env) (x : D) : Out D := (g ρ).bind (kChB op op' h ρ x)
theorem e_ch {op op' : D → D → Out D} {f g h : Env → Out D} : dChain op op' f g h ρ = (f ρ).bind (kCh op op' g h ρ) := by
  unfold dChain
  refine congrArg _ (funext fun x => ?_); unfold kCh; refine congrArg _ (funext fun y => ?_); unfold kChB; refine congrArg _ (funext fun z => ?_); unfold kChC; exact congrArg _ (funext fun k => by cases k <;> rfl)
theorem e_kch {op op' : D → D → Out D} {g h : Env → Out D} : kCh op op' g h ρ x = (g ρ).bind (kChB op op' h ρ x) := (rfl)
theorem e_tob : toB (.bl b) = .ok b := (rfl)
def kNotD (b : Bool) : Out D := .ok (.bl (!b))
theorem e_notd : notD d = (truD d).bind kNotD := (rfl)
theorem e_knotd : kNotD b = .ok (.bl (!b)) := (rfl)
theorem e_neg {n : Int} : negD (.int n) = .ok (.int (-n)) := (rfl)
theorem e_add {m n : Int} : addD (.int m) (.int n) = .ok (.int (m + n)) := (rfl)
theorem e_addt : addD (.tup xs) (.tup ys) = guard' (xs.length + ys.length ≤ cap) (.ok (.tup (xs ++ ys))) := (rfl)
theorem e_adds {a b : Str} : addD (.str a) (.str b) = guard' (a.length + b.length ≤ cap) (.ok (.str (a ++ b))) := (rfl)
theorem e_sub {m n : Int} : subD (.int m) (.int n) = .ok (.int (m - n)) := (rfl)
theorem e_lt {m n : Int} : ltD (.int m) (.int n) = .ok (.bl (decide (m < n))) := (rfl)
theorem e_le {m n : Int} : leD (.int m) (.int n) = .ok (.bl (decide (m ≤ n))) := (rfl)
theorem e_gt {m n : Int} : gtD (.int m) (.int n) = .ok (.bl (decide (n < m))) := (rfl)
theorem e_ge {m n : Int} : geD (.int m) (.int n) = .ok (.bl (decide (n ≤ m))) := (rfl)
theorem e_ixl {n : Int} : idxD (.lst xs) (.int n) = oOf (atI xs n) := (rfl)
theorem e_ixt {n : Int} : idxD (.tup xs) (.int n) = oOf (atI xs n) := (rfl)
theorem e_ixs {x : Str} {n : Int} : idxD (.str x) (.int n) = guard' (x.length ≤ cap) (oOf ((atI x.cps.toList n).map fun c => .str ⟨#[c]⟩)) := (rfl)
theorem e_ixr {ns : List Int} {n : Int} : idxD (.scr ns) (.int n) = oOf ((atI ns n).map .int) := (rfl)
theorem e_trn : truD .non = .ok false := (rfl)
theorem e_trb : truD (.bl b) = .ok b := (rfl)
theorem e_tri {n : Int} : truD (.int n) = .ok (n != 0) := (rfl)
theorem e_trl : truD (.lst xs) = .ok (!xs.isEmpty) := (rfl)
theorem e_trt : truD (.tup xs) = .ok (!xs.isEmpty) := (rfl)
theorem e_trs {x : Str} : truD (.str x) = guard' (x.length ≤ cap) (.ok ((x.length : Int) != 0)) := (rfl)
theorem e_trr {ns : List Int} : truD (.scr ns) = .ok (!ns.isEmpty) := (rfl)
theorem e_lenl : lenD [.lst xs] = .ok (.int xs.length) := (rfl)
theorem e_lent : lenD [.tup xs] = .ok (.int xs.length) := (rfl)
theorem e_lens {x : Str} : lenD [.str x] = guard' (x.length ≤ cap) (.ok (.int x.length)) := (rfl)
theorem e_lenr {ns : List Int} : lenD [.scr ns] = .ok (.int ns.length) := (rfl)
theorem e_abs {n : Int} : absD [.int n] = .ok (.int (if n < 0 then -n else n)) := (rfl)
theorem e_max {m n : Int} : maxD [.int m, .int n] = .ok (.int (if n > m then n else m)) := (rfl)
theorem e_min {m n : Int} : minD [.int m, .int n] = .ok (.int (if n < m then n else m)) := (rfl)
theorem e_cat : catS (.lst xs) (.lst ys) = guard' (xs.length + ys.length ≤ cap) (.ok (.l (xs ++ ys))) := (rfl)
theorem e_list1 : listS [.lst xs] = .ok (.l xs) := (rfl)
theorem e_list2 : listS [.tup xs] = .ok (.l xs) := (rfl)
theorem e_tuple1 : tupleD [.lst xs] = .ok (.tup xs) := (rfl)
theorem e_tuple2 : tupleD [.tup xs] = .ok (.tup xs) := (rfl)
theorem e_isn : isND d = .ok (.bl (isNo d)) := (rfl)
theorem e_isnn : isnotND d = .ok (.bl (!isNo d)) := (rfl)
theorem e_ns1 : isNS (.d d) = .ok (.bl (isNo d)) := (rfl)
theorem e_ns2 {c : Str} {p : Option Int} : isNS (.x c p) = .ok (.bl false) := (rfl)
theorem e_nns1 : isnotNS (.d d) = .ok (.bl (!isNo d)) := (rfl)
theorem e_nns2 {c : Str} {p : Option Int} : isnotNS (.x c p) = .ok (.bl true) := (rfl)
theorem e_no1 : isNo .non = true := (rfl)
theorem e_no2 {n : Int} : isNo (.int n) = false := (rfl)
theorem e_no3 : isNo (.tup xs) = false := (rfl)
theorem e_no4 : isNo (.lst xs) = false := (rfl)
theorem e_int1 {n : Int} : intD [.int n] = .ok (.int n) := (rfl)
theorem e_int2 : intD [.bl b] = .ok (.int (if b = true then 1 else 0)) := (rfl)
theorem e_run {n : Nat} {ss : List S} : runD n f ss = endD (f (startE n ss)) := (rfl)
theorem e_endn : endD (.ok (.next ρ)) = .ok (.d .non) := (rfl)
theorem e_endr : endD (.ok (.ret s)) = .ok s := (rfl)
theorem e_endx {c : Str} {p : Option Int} : endD (.exc c p) = .exc c p := (rfl)
theorem e_start {n : Nat} {ss : List S} : startE n ss = ss.map some ++ List.replicate (n - ss.length) none := (rfl)
theorem e_w0 : wipeE ρ [] = ρ := (rfl)
theorem e_w1 {is : List Nat} : wipeE ρ (i :: is) = (wipeE ρ is).set i none := (rfl)
def kFrB (ρ : Env) (i : Nat) : Out D → Env
  | .ok d => ρ.set i (some (.d d))
  | _ => ρ
def kFr (ρ : Env) (i : Nat) : Option (Option S) → Env
  | some (some s) => kFrB ρ i s.fz
  | _ => ρ
theorem e_frz : frzE ρ i = kFr ρ i ρ[i]? := by
  unfold frzE
  generalize ρ[i]? = o
  rcases o with _ | _ | s
  · rfl
  · rfl
  · show (match s.fz with | .ok d => _ | _ => _) = kFrB ρ i s.fz
    cases s.fz <;> rfl
theorem e_kfr : kFr ρ i (some (some s)) = kFrB ρ i s.fz := (rfl)
theorem e_kfrb : kFrB ρ i (.ok d) = ρ.set i (some (.d d)) := (rfl)
theorem e_name : kName i d ρ = .ok (ρ.set i (some (.d d))) := (rfl)
theorem e_namest {is : List Nat} : kNames is (.tup ds) ρ = guard' (ds.length = is.length) (.ok (setAll is ds ρ)) := (rfl)
theorem e_namesl {is : List Nat} : kNames is (.lst ds) ρ = guard' (ds.length = is.length) (.ok (setAll is ds ρ)) := (rfl)
theorem e_all0 : setAll [] [] ρ = ρ := (rfl)
theorem e_all1 {is : List Nat} : setAll (i :: is) (d :: ds) ρ = setAll is ds (ρ.set i (some (.d d))) := (rfl)
theorem e_ktupt {n : Nat} {k : List D → Env → Out Env} : kTup n k (.tup ds) ρ = guard' (ds.length = n) (k ds ρ) := (rfl)
theorem e_ktupl {n : Nat} {k : List D → Env → Out Env} : kTup n k (.lst ds) ρ = guard' (ds.length = n) (k ds ρ) := (rfl)
def kTC (k2 : List D → Env → Out Env) (r : List D) (ρ1 : Env) : Out Env := k2 r ρ1
theorem e_ktc {k2 : List D → Env → Out Env} : kTC k2 ds ρ = k2 ds ρ := (rfl)
theorem e_ktcons {k1 : D → Env → Out Env} {k2 : List D → Env → Out Env} : kCons k1 k2 (d :: ds) ρ = (k1 d ρ).bind (kTC k2 ds) := (rfl)
theorem e_ktnil : kNil [] ρ = .ok ρ := (rfl)
theorem e_yes : yesT ρ = .ok true := (rfl)
theorem e_scs : scS (.d d) = scD d := (rfl)
theorem e_sc1 : scD .non = .ok .non := (rfl)
theorem e_sc2 : scD (.bl b) = .ok (.bl b) := (rfl)
theorem e_sc3 {n : Int} : scD (.int n) = .ok (.int n) := (rfl)
theorem e_sc4 {x : Str} : scD (.str x) = .ok (.str x) := (rfl)
theorem e_itl : itL (.lst ds) = .ok ds := (rfl)
theorem e_itt : itT (.tup ds) = .ok ds := (rfl)
def kLcA (vs : List Nat) (ys : List D) : Out S := .ok (.l ys)
theorem e_lca {vs : List Nat} : kLcA vs ys = .ok (.l ys) := (rfl)
def kLc (vs : List Nat) (k : D → Env → Out Env) (t : Env → Out Bool) (el : Env → Out D) (ρ : Env) (ds : List D) : Out S := guard' (ds.length ≤ cap) ((lcD k t el (wipeE ρ vs) ds).bind (kLcA vs))
theorem e_lc {vs : List Nat} {it : Env → Out (List D)} {k : D → Env → Out Env} {t : Env → Out Bool} {el : Env → Out D} : dLc vs it k t el ρ = (it ρ).bind (kLc vs k t el ρ) := (rfl)
theorem e_klc {vs : List Nat} {k : D → Env → Out Env} {t : Env → Out Bool} {el : Env → Out D} : kLc vs k t el ρ ds = guard' (ds.length ≤ cap) ((lcD k t el (wipeE ρ vs) ds).bind (kLcA vs)) := (rfl)
section
variable {k : D → Env → Out Env} {t : Env → Out Bool} {el : Env → Out D}
def kL3 (k : D → Env → Out Env) (t : Env → Out Bool) (el : Env → Out D) (ρ : Env) (ds : List D) (y : D) : Out (List D) := (lcD k t el ρ ds).bind (kConsB y)
def kL2 (k : D → Env → Out Env) (t : Env → Out Bool) (el : Env → Out D) (ρ : Env) (ds : List D) (ρ1 : Env) : Bool → Out (List D)
  | true => (noX (el ρ1)).bind (kL3 k t el ρ ds)
  | false => lcD k t el ρ ds
def kL1 (k : D → Env → Out Env) (t : Env → Out Bool) (el : Env → Out D) (ρ : Env) (ds : List D) (ρ1 : Env) : Out (List D) := (noX (t ρ1)).bind (kL2 k t el ρ ds ρ1)
theorem e_l0 : lcD k t el ρ [] = .ok [] := (rfl)
theorem e_l1 : lcD k t el ρ (d :: ds) = (noX (k d ρ)).bind (kL1 k t el ρ ds) := by
  show (noX (k d ρ)).bind _ = _
  refine congrArg _ (funext fun ρ1 => ?_); unfold kL1; exact congrArg _ (funext fun b => by cases b <;> rfl)
theorem e_kl1 : kL1 k t el ρ ds ρ' = (noX (t ρ')).bind (kL2 k t el ρ ds ρ') := (rfl)
theorem e_kl2t : kL2 k t el ρ ds ρ' true = (noX (el ρ')).bind (kL3 k t el ρ ds) := (rfl)
theorem e_kl2f : kL2 k t el ρ ds ρ' false = lcD k t el ρ ds := (rfl)
theorem e_kl3 : kL3 k t el ρ ds y = (lcD k t el ρ ds).bind (kConsB y) := (rfl)
def kLp2 (k : D → Env → Out Env) (f : Env → Out Res) (ds : List D) : Res → Out Res
  | .next ρ => loopD k f ds ρ
  | .ret s => .ok (.ret s)
def kLp (k : D → Env → Out Env) (f : Env → Out Res) (ds : List D) (ρ1 : Env) : Out Res := (f ρ1).bind (kLp2 k f ds)
theorem e_lp0 : loopD k f [] ρ = .ok (.next ρ) := (rfl)
theorem e_lp1 : loopD k f (d :: ds) ρ = (k d ρ).bind (kLp k f ds) := by
  show (k d ρ).bind _ = _
  refine congrArg _ (funext fun ρ1 => ?_); unfold kLp; exact congrArg _ (funext fun r => by cases r <;> rfl)
theorem e_klp : kLp k f ds ρ = (f ρ).bind (kLp2 k f ds) := (rfl)
theorem e_klpn : kLp2 k f ds (.next ρ) = loopD k f ds ρ := (rfl)
theorem e_klpr : kLp2 k f ds (.ret s) = .ok (.ret s) := (rfl)
end
end
end G

set_option Elab.async false
set_option linter.all false
set_option maxRecDepth 100000
set_option maxHeartbeats 4000000
namespace G
open PySem L2
/-! ### common lemmas of the later laws -/
theorem lc_filt {β : Type} (g : β → D) (h : β → D) (p : β → Bool) {k : D → Env → Out Env} {t : Env → Out Bool} {el : Env → Out D} {ρ : Env} : ∀ (L : List β), (∀ x ∈ L, ((k (g x) ρ).bind fun ρ1 => t ρ1) = .ok (p x) ∧ (p x = true → ((k (g x) ρ).bind fun ρ1 => el ρ1) = .ok (h x))) → lcD k t el ρ (L.map g) = .ok ((L.filter p).map h)
  | [], _ => rfl
  | x :: L, hx => by
    obtain ⟨h1, h2⟩ := hx x List.mem_cons_self
    have ih := lc_filt g h p L fun y hy => hx y (List.mem_cons_of_mem _ hy)
    rw [List.map_cons]
    unfold lcD
    cases q : k (g x) ρ with
    | ok ρ1 =>
      rw [q] at h1 h2
      have h1 : t ρ1 = _ := h1
      show (noX (.ok ρ1)).bind _ = _
      rw [noX_k, ok_bind, h1, noX_k, ok_bind]
      cases z : p x with
      | true =>
        have h2 : el ρ1 = _ := h2 z
        rw [if_pos rfl, h2, noX_k, ok_bind, ih, ok_bind, List.filter_cons_of_pos z, List.map_cons]
      | false => rw [if_neg Bool.false_ne_true, ih, List.filter_cons_of_neg (by simp [z])]
    | exc c p' => rw [q] at h1; cases h1
    | stuck => rw [q] at h1; cases h1
theorem eq_nil (l : List D) : eqD (.lst l) (.lst []) = .ok (.bl l.isEmpty) := by
  unfold eqD
  rw [guard_t (show eqOk (.lst l) (.lst []) from by unfold eqOk; rw [show shal 40 (.lst []) = true from rfl, Bool.or_true]), eqv_ll]
  cases l with
  | nil => rw [eqvAll_nil]; rfl
  | cons x r => rw [eqvAll_cn]; rfl
theorem any_map {β : Type} (h : β → Bool) (L : List β) : anyD [.lst (L.map fun x => .bl (h x))] = .ok (.bl (L.any h)) := by
  show oOf (Option.map _ (blsOf _)) = _
  rw [bls_map]
  show Out.ok (D.bl _) = _
  rw [List.any_map]; rfl
theorem cut_from {α : Type} (xs : List α) (k : Nat) : cutD xs (some (k : Int)) none = xs.drop k := by
  unfold cutD
  rw [HT.sIx_nat, HT.sIx_none]
  by_cases h : k ≤ xs.length
  · rw [show min k xs.length = k by omega, List.take_of_length_le (by rw [List.length_drop]; omega)]
  · rw [show min k xs.length = xs.length by omega, List.drop_eq_nil_of_le (Nat.le_refl _), List.drop_eq_nil_of_le (by omega), List.take_nil]
theorem cut_to {α : Type} (xs : List α) (k : Nat) : cutD xs none (some (k : Int)) = xs.take k := by
  unfold cutD
  rw [HT.sIx_nat, HT.sIx_none, List.drop_zero, Nat.sub_zero, List.take_eq_take_iff]; omega
theorem first_range (p : Nat → Bool) (a : Nat) (h1 : ∀ k, k < a → p k = false) (h2 : p a = true) : ∀ n, a < n → ∃ t, (List.range n).filter p = a :: t
  | 0, h => by omega
  | n + 1, h => by
    rw [List.range_succ, List.filter_append]
    by_cases q : a < n
    · obtain ⟨t, ht⟩ := first_range p a h1 h2 n q
      exact ⟨t ++ [n].filter p, by rw [ht]; rfl⟩
    · have e : a = n := by omega
      subst e
      have : (List.range a).filter p = [] := by
        rw [List.filter_eq_nil_iff]
        intro k hk
        rw [List.mem_range] at hk
        simp [h1 k hk]
      exact ⟨[], by rw [this]; simp [h2]⟩
/-! ### objects -/
section
variable {ρ : Env} {i n : Nat} {c c' m f : Str} {fs : List (Str × D)} {ss : List S} {s : S} {d d' : D}
theorem e_fld : dFld i c f ρ = kFld c f ρ[i]? := (rfl)
theorem e_kfld : kFld c f (some (some (.o c fs))) = oOf (fs.lookup f) := by unfold kFld; exact guard_t rfl
theorem e_meth {mm : List S → Out S} {g : Env → Out (List S)} : dMeth i c m n mm g ρ = kMeth c m n mm g ρ ρ[i]? := (rfl)
theorem e_kmeth {mm : List S → Out S} {g : Env → Out (List S)} (h : fs.lookup m = none) : kMeth c m n mm g ρ (some (some (.o c fs))) = (g ρ).bind (kMethB n mm (.o c fs)) := by unfold kMeth; exact guard_t ⟨rfl, h⟩
theorem e_kmethb {mm : List S → Out S} : kMethB n mm s ss = guard' (ss.length + 1 = n) (mm (s :: ss)) := (rfl)
theorem e_make {mi : List S → Out (List (Str × D))} : kMake c n mi ss = guard' (ss.length = n) ((noX (mi ss)).bind (kMkO c)) := (rfl)
theorem e_mko : kMkO c fs = .ok (.o c fs) := (rfl)
def kIniB (fl : Env → Out (List (Str × D))) (ρ : Env) : Out (List (Str × D)) := guard' (allDb ρ = true) (fl ρ)
def kIni (n : Nat) (k : D → Env → Out Env) (fl : Env → Out (List (Str × D))) (ρ : Env) (d : D) : Out (List (Str × D)) := (k d ρ).bind (kIniB fl)
theorem e_init {f : Env → Out D} {k : D → Env → Out Env} {fl : Env → Out (List (Str × D))} : initU n f k fl ss = (f (startI n ss)).bind (kIni n k fl (startI n ss)) := (rfl)
theorem e_kini {k : D → Env → Out Env} {fl : Env → Out (List (Str × D))} : kIni n k fl ρ d = (k d ρ).bind (kIniB fl) := (rfl)
def kIniC (fl : Env → Out (List (Str × D))) (ρ : Env) : Bool → Out (List (Str × D))
  | true => fl ρ
  | false => .stuck
theorem e_kinib {fl : Env → Out (List (Str × D))} : kIniB fl ρ = kIniC fl ρ (allDb ρ) := by
  unfold kIniB
  cases h : allDb ρ with
  | true => exact guard_t rfl
  | false => exact if_neg (by decide)
theorem e_kinic {fl : Env → Out (List (Str × D))} : kIniC fl ρ true = fl ρ := (rfl)
theorem e_alld0 : allDb [] = true := (rfl)
theorem e_alld1 : allDb (none :: ρ) = allDb ρ := by unfold allDb; rw [List.all_cons, Bool.true_and]
theorem e_alld2 : allDb (some (.d d) :: ρ) = allDb ρ := by unfold allDb; rw [List.all_cons, Bool.true_and]
theorem e_starti : startI n ss = none :: (ss.map some ++ List.replicate (n - (ss.length + 1)) none) := (rfl)
def kF2 (f1 f2 : Str) (d d' : D) : Out (List (Str × D)) := .ok [(f1, d), (f2, d')]
def kF1 (f1 f2 : Str) (g2 : Env → Out D) (ρ : Env) (d : D) : Out (List (Str × D)) := (g2 ρ).bind (kF2 f1 f2 d)
theorem e_flds2 {f1 f2 : Str} {g1 g2 : Env → Out D} : flds2 f1 f2 g1 g2 ρ = (g1 ρ).bind (kF1 f1 f2 g2 ρ) := (rfl)
theorem e_kf1 {f1 f2 : Str} {g2 : Env → Out D} : kF1 f1 f2 g2 ρ d = (g2 ρ).bind (kF2 f1 f2 d) := (rfl)
theorem e_kf2 {f1 f2 : Str} : kF2 f1 f2 d d' = .ok [(f1, d), (f2, d')] := (rfl)
theorem e_joind {z : Str} {xs : List D} : joinD z (.lst xs) = joinS z (strsOf xs) := (rfl)
theorem e_joins {z : Str} {ys : List Str} : joinS z (some ys) = guard' ((ys.map (·.length)).sum + ys.length * z.length ≤ 1000000) (.ok (.str (Txt.join z ys))) := (rfl)
theorem e_revrd {j : Int} (h : -1000000000 ≤ j ∧ j ≤ 1000000000) : revRD (.int j) = .ok (revRL j.toNat) := guard_t h
theorem strs_map {β : Type} (h : β → Str) : ∀ L : List β, strsOf (L.map fun x => .str (h x)) = some (L.map h)
  | [] => rfl
  | x :: L => by rw [List.map_cons]; unfold strsOf; rw [strs_map h L]; rfl
theorem e_addb {a b : Bool} : addbD (.bl a) (.bl b) = .ok (.int (PyProof.Rows.b2i a + PyProof.Rows.b2i b)) := (rfl)
def kLstB (ds : List D) : Out D := guard' (ds.length ≤ cap) (.ok (.lst ds))
theorem e_lstb {f : Env → Out (List D)} : lstB f ρ = (f ρ).bind kLstB := (rfl)
theorem e_klstb {ds : List D} : kLstB ds = guard' (ds.length ≤ cap) (.ok (.lst ds)) := (rfl)
end
section
variable {ρ : Env} {i j w n : Nat} {f g h : Env → Out D} {xss yss : List (List D)} {xs ys : List D} {d y : D} {m : Int} {s t : S}
theorem e_oixx : dOix2 i g h ρ = kOix2 g h ρ ρ[i]? := (rfl)
theorem e_oixx1 : kOix2 g h ρ (some (some (.ll xss))) = (g ρ).bind (kOix2A h ρ xss) := (rfl)
theorem e_oixx2 : kOix2A h ρ xss (.int m) = kOix2B h ρ (atI xss m) := (rfl)
theorem e_oixx3 : kOix2B h ρ (some xs) = (h ρ).bind (kOix2C xs) := (rfl)
theorem e_oixx4 : kOix2C xs y = idxD (.lst xs) y := (rfl)
theorem e_sets : sSet2 i f g h ρ = (f ρ).bind (kSet20 i g h ρ) := (rfl)
theorem e_sets0 : kSet20 i g h ρ d = kSet2B i g h ρ d ρ[i]? := (rfl)
theorem e_sets1 : kSet2B i g h ρ d (some (some (.ll xss))) = (g ρ).bind (kSet2A i h d ρ xss) := (rfl)
theorem e_sets2 : kSet2A i h d ρ xss (.int m) = kSet2F i h d ρ xss (ixN xss.length m) := (rfl)
theorem e_sets3 : kSet2F i h d ρ xss (some j) = kSet2E i h d ρ xss j xss[j]? := (rfl)
theorem e_sets4 : kSet2E i h d ρ xss j (some xs) = (h ρ).bind (kSet2C i xss j xs d ρ) := (rfl)
theorem e_sets5 : kSet2C i xss j xs d ρ y = (kSet xs (y, d)).bind (kSet2D i xss j ρ) := (rfl)
theorem e_sets6 : kSet2D i xss j ρ ys = .ok (.next (ρ.set i (some (.ll (xss.set j ys))))) := (rfl)
theorem e_appall : sAppAll i j w ρ = kAll0 i j w ρ ρ[i]? ρ[j]? := (rfl)
theorem e_all_0 : kAll0 i j w ρ (some (some s)) (some (some t)) = kAll1 i j w ρ t (llOf s) := (rfl)
theorem e_all_1 : kAll1 i j w ρ t (some xss) = kAll2 i j w ρ xss (llOf t) := (rfl)
theorem e_all_2 : kAll2 i j w ρ xss (some yss) = guard' ((i ≠ j ∧ w ≠ i ∧ w ≠ j ∧ w < ρ.length) ∧ xss.length + yss.length ≤ cap ∧ (xss ++ yss).all (fun z => decide (z.length < cap)) = true) (.ok (.next (wipeE ρ [i, j, w]))) := (rfl)
def kLcLA (ys : List (List D)) : Out S := .ok (.ll ys)
theorem e_lclA : kLcLA xss = .ok (.ll xss) := (rfl)
def kLcL (vs : List Nat) (k : D → Env → Out Env) (el : Env → Out S) (ρ : Env) (ds : List D) : Out S := guard' (ds.length ≤ cap) ((noX (lcL k el (wipeE ρ vs) ds)).bind kLcLA)
theorem e_lcl {vs : List Nat} {it : Env → Out (List D)} {k : D → Env → Out Env} {el : Env → Out S} : dLcL vs it k el ρ = (it ρ).bind (kLcL vs k el ρ) := (rfl)
theorem e_klcl {vs : List Nat} {k : D → Env → Out Env} {el : Env → Out S} : kLcL vs k el ρ xs = guard' (xs.length ≤ cap) ((noX (lcL k el (wipeE ρ vs) xs)).bind kLcLA) := (rfl)
theorem lcl_map {β : Type} (g : β → D) (h : β → List D) {k : D → Env → Out Env} {el : Env → Out S} {ρ : Env} : ∀ (L : List β), (∀ x ∈ L, ((k (g x) ρ).bind fun ρ1 => el ρ1) = .ok (.l (h x))) → lcL k el ρ (L.map g) = .ok (L.map h)
  | [], _ => rfl
  | x :: L, hx => by
    have h1 := hx x List.mem_cons_self
    have ih := lcl_map g h L fun y hy => hx y (List.mem_cons_of_mem _ hy)
    rw [List.map_cons, List.map_cons]
    unfold lcL
    cases q : k (g x) ρ with
    | ok ρ1 =>
      rw [q, ok_bind] at h1
      rw [noX_k, ok_bind, h1, noX_k, ok_bind]
      show (lcL k el ρ (L.map g)).bind (fun ys => Out.ok (h x :: ys)) = _
      rw [ih]; rfl
    | exc c p => rw [q] at h1; cases h1
    | stuck => rw [q] at h1; cases h1
end
section
variable {ρ : Env} {i j w : Nat} {g : Env → Out D} {f : Env → Out Res} {xss : List (List D)} {xs ys : List D} {d : D} {m : Int} {tab : List (Str × Int)} {z : Str}
theorem e_lend : sLend i w g f ρ = kLend i w g f ρ ρ[i]? := (rfl)
theorem e_lend1 : kLend i w g f ρ (some (some (.ll xss))) = (g ρ).bind (kLendA i w f ρ xss) := (rfl)
theorem e_lend2 : kLendA i w f ρ xss (.int m) = kLendB i w f ρ xss (ixN xss.length m) := (rfl)
theorem e_lend3 : kLendB i w f ρ xss (some j) = kLendC i w f ρ xss j xss[j]? := (rfl)
theorem e_lend4 : kLendC i w f ρ xss j (some xs) = guard' (w < ρ.length) (kLendD i w xss j (f ((ρ.set i none).set w (some (.l xs))))) := (rfl)
theorem e_lend5 {ρ' : Env} : kLendD i w xss j (.ok (.next ρ')) = kLendE i w xss j ρ' ρ'[w]? := (rfl)
theorem e_lend6 {ρ' : Env} : kLendE i w xss j ρ' (some (some (.l ys))) = .ok (.next ((ρ'.set i (some (.ll (xss.set j ys)))).set w none)) := (rfl)
theorem e_dget : dgetD tab (.str z) d = .ok (match tabV tab z with | some i => .int i | none => d) := (rfl)
end
end G

set_option Elab.async false
set_option linter.all false
set_option maxRecDepth 100000
set_option maxHeartbeats 4000000
namespace G
open PySem L2
def tt_LETTERS : List (Str × D) := [("M", .str "at"), ("L", .str "to"), ("Q", .str "by")]
def tt_COUNTS : List (Str × D) := [("at", .int 3), ("to", .int 3), ("by", .int 5)]
def t_COUNTS : List (Str × Int) := [("at", 3), ("to", 3), ("by", 5)]
def den__law_cell : Env → Out Res := (sSeq (sIf (d1 truD (dV 0)) (sSeq (sRet (fun ρ => ((d2 idxD (dV 0) (d2 modD (dV 1) (dA lenD (aCons (dV 0) aNil)))) ρ).bind fun d => .ok (.d d))) sNext) sNext) (sSeq (sRet (fun ρ => ((dC (.int 0)) ρ).bind fun d => .ok (.d d))) sNext))
def m__law_cell : List S → Out S := runD 2 den__law_cell
def den__law_mix : Env → Out Res := (sSeq (sAsg 2 (d2 modD (d2 addD (fun ρ => ((dA (fun ss => guard' (ss.length = 2) (m__law_cell ss)) (sCons (toS (dV 0)) (sCons (toS (dV 1)) sNil))) ρ).bind S.fz) (d2 mulD (dC (.int 104729)) (d2 addD (dV 1) (dC (.int 1))))) (dC (.int 4294967291)))) (sSeq (sAsg 2 (d2 modD (d2 powD (dV 2) (dC (.int 5))) (dC (.int 4294967279)))) (sSeq (sRet (fun ρ => ((d2 modD (d2 addD (d2 mulD (d2 divD (dV 2) (dC (.int 64))) (dC (.int 69621))) (dV 2)) (dC (.int 4294967231))) ρ).bind fun d => .ok (.d d))) sNext)))
def m__law_mix : List S → Out S := runD 3 den__law_mix
def den__law_number : Env → Out Res := (sSeq (sAsg 3 (fun ρ => ((dA (fun ss => guard' (ss.length = 2) (m__law_mix ss)) (sCons (toS (dV 0)) (sCons (toS (dV 1)) sNil))) ρ).bind S.fz)) (sSeq (sRet (fun ρ => ((d2 idxD (fun ρ => ((lstD (aCons (dC (.int 0)) (aCons (dC (.int 1)) (aCons (d1 negD (dC (.int 1))) (aCons (d2 subD (d2 modD (d2 divD (dV 3) (dC (.int 8))) (dC (.int 11))) (dC (.int 5))) (aCons (d2 subD (d2 modD (d2 divD (dV 3) (dC (.int 8))) (d2 addD (d2 mulD (dC (.int 2)) (dV 2)) (dC (.int 1)))) (dV 2)) aNil)))))) ρ).bind S.fz) (d2 modD (dV 3) (dC (.int 5)))) ρ).bind fun d => .ok (.d d))) sNext))
def m__law_number : List S → Out S := runD 4 den__law_number
def den__law_step_e1 : Env → Out D := (fun ρ => ((dA (fun ss => guard' (ss.length = 3) (m__law_number ss)) (sCons (toS (dV 0)) (sCons (toS (d2 addD (d2 addD (dV 1) (dC (.int 1))) (dV 4))) (sCons (toS (dV 2)) sNil)))) ρ).bind S.fz)
def den__law_step_s2 : Env → Out Res := (sAsgE 5 (dLc [4] (dA rng1 (aCons (dC (.int 4)) aNil)) (kName 4) yesT den__law_step_e1))
def den__law_step_t2 : Env → Out Res := sSeq den__law_step_s2 (fun ρ => (sSeq (sRet (fun ρ => ((d2 addD (tupD (aCons (dC (.str "by")) aNil)) (dA tupleD (aCons (dV 5) aNil))) ρ).bind fun d => .ok (.d d))) sNext) (frzE ρ 5))
def den__law_step_s1 : Env → Out Res := (sIf (d1 toB (d2 ltD (d2 modD (dV 3) (dC (.int 5))) (dC (.int 2)))) (sSeq (sRet (fun ρ => ((tupD (aCons (dC (.str "to")) (aCons (fun ρ => ((dA (fun ss => guard' (ss.length = 3) (m__law_number ss)) (sCons (toS (dV 0)) (sCons (toS (d2 addD (dV 1) (dC (.int 1)))) (sCons (toS (dV 2)) sNil)))) ρ).bind S.fz) (aCons (fun ρ => ((dA (fun ss => guard' (ss.length = 3) (m__law_number ss)) (sCons (toS (dV 0)) (sCons (toS (d2 addD (dV 1) (dC (.int 2)))) (sCons (toS (dV 2)) sNil)))) ρ).bind S.fz) aNil)))) ρ).bind fun d => .ok (.d d))) sNext) sNext)
def den__law_step_t1 : Env → Out Res := sSeq den__law_step_s1 den__law_step_t2
def den__law_step : Env → Out Res := (sSeq (sAsg 3 (fun ρ => ((dA (fun ss => guard' (ss.length = 2) (m__law_mix ss)) (sCons (toS (dV 0)) (sCons (toS (dV 1)) sNil))) ρ).bind S.fz)) den__law_step_t1)
def m__law_step : List S → Out S := runD 6 den__law_step
def den__law_way_b1 : Env → Out Res := (sSeq (sMut 3 (fun ρ => ((dA (fun ss => guard' (ss.length = 3) (m__law_step ss)) (sCons (toS (dV 0)) (sCons (toS (d2 addD (d2 addD (dV 1) (dC (.int 3))) (d2 mulD (dC (.int 3)) (dV 4)))) (sCons (toS (dV 2)) sNil)))) ρ).bind S.fz) kApp) (fun ρ => sNext (wipeE ρ [4])))
def den__law_way : Env → Out Res := (sSeq (sAsgE 3 (lstD (aCons (tupD (aCons (dC (.str "at")) (aCons (fun ρ => ((dA (fun ss => guard' (ss.length = 3) (m__law_number ss)) (sCons (toS (dV 0)) (sCons (toS (dV 1)) (sCons (toS (dV 2)) sNil)))) ρ).bind S.fz) (aCons (fun ρ => ((dA (fun ss => guard' (ss.length = 3) (m__law_number ss)) (sCons (toS (dV 0)) (sCons (toS (d2 addD (dV 1) (dC (.int 1)))) (sCons (toS (dV 2)) sNil)))) ρ).bind S.fz) aNil)))) aNil))) (sSeq (sFor (dA rng1 (aCons (d2 modD (fun ρ => ((dA (fun ss => guard' (ss.length = 2) (m__law_mix ss)) (sCons (toS (dV 0)) (sCons (toS (d2 addD (dV 1) (dC (.int 2)))) sNil))) ρ).bind S.fz) (dC (.int 5))) aNil)) (kName 4) den__law_way_b1) (sSeq (sRetV 3) sNext)))
def m__law_way : List S → Out S := runD 5 den__law_way
def den__law_outline_e1 : Env → Out D := (fun ρ => ((dA (fun ss => guard' (ss.length = 3) (m__law_way ss)) (sCons (toS (dV 0)) (sCons (toS (d2 addD (dV 1) (d2 mulD (dC (.int 20)) (dV 3)))) (sCons (toS (dV 2)) sNil)))) ρ).bind S.fz)
def den__law_outline : Env → Out Res := (sSeq (sRet (dLc [3] (dA rng1 (aCons (d2 idxD (fun ρ => ((lstD (aCons (dC (.int 1)) (aCons (dC (.int 1)) (aCons (dC (.int 2)) (aCons (dC (.int 3)) (aCons (dC (.int 0)) (aCons (dC (.int 2)) aNil))))))) ρ).bind S.fz) (d2 modD (fun ρ => ((dA (fun ss => guard' (ss.length = 2) (m__law_mix ss)) (sCons (toS (dV 0)) (sCons (toS (d2 addD (dV 1) (dC (.int 70)))) sNil))) ρ).bind S.fz) (dC (.int 6)))) aNil)) (kName 3) yesT den__law_outline_e1)) sNext)
def m__law_outline : List S → Out S := runD 4 den__law_outline
def den__law_step_text : Env → Out Res := (sSeq (sRet (fun ρ => ((d1 (joinD " ") (fun ρ => ((d2 catS (fun ρ => ((lstD (aCons (d1 (didxD [("at", "M"), ("to", "L"), ("by", "Q")]) (d2 idxD (dV 0) (dC (.int 0)))) aNil)) ρ).bind S.fz) (fun ρ => ((dLc [1] (d1 itT (fun ρ => ((dSlc (dV 0) (oSo (dC (.int 1))) oNo) ρ).bind S.fz)) (kName 1) yesT (dA strD (aCons (dV 1) aNil))) ρ).bind S.fz)) ρ).bind S.fz)) ρ).bind fun d => .ok (.d d))) sNext)
def m__law_step_text : List S → Out S := runD 2 den__law_step_text
def den__law_text_e1 : Env → Out D := (fun ρ => ((dA (fun ss => guard' (ss.length = 1) (m__law_step_text ss)) (sCons (toS (dV 2)) sNil)) ρ).bind S.fz)
def den__law_text_e2 : Env → Out D := (d1 (joinD " ") (fun ρ => ((dLc [2] (d1 itL (dV 1)) (kName 2) yesT den__law_text_e1) ρ).bind S.fz))
def den__law_text : Env → Out Res := (sSeq (sRet (fun ρ => ((d1 (joinD "\n") (fun ρ => ((dLc [1] (d1 itL (dV 0)) (kName 1) yesT den__law_text_e2) ρ).bind S.fz)) ρ).bind fun d => .ok (.d d))) sNext)
def m__law_text : List S → Out S := runD 3 den__law_text
def mi_Signs : List S → Out (List (Str × D)) := initF 2 (flds2 "text" "at" (dV 1) (dC (.int 0)))
def den_Signs_sees : Env → Out Res := (sSeq (sRet (dSlc (dFld 0 "Signs" "text") (oSo (dFld 0 "Signs" "at")) (oSo (d2 addD (dFld 0 "Signs" "at") (dC (.int 1)))))) sNext)
def m_Signs_sees : List S → Out S := runD 1 den_Signs_sees
def den_Signs_number_b1 : Env → Out Res := (sSeq (sFset 0 "Signs" "at" (d2 addD (dFldM 0 "Signs" "at") (dC (.int 1)))) sNext)
def den_Signs_number_s9 : Env → Out Res := (sIf (dOr (d1 toB (d2 gtD (dA lenD (aCons (dV 3) aNil)) (dC (.int 6)))) (d1 toB (d2 gtD (dA intD (aCons (dV 3) aNil)) (dC (.int 100000))))) (sSeq sStuck sNext) sNext)
def den_Signs_number_t9 : Env → Out (Env × D) := rSeq den_Signs_number_s9 (rRet (dA intD (aCons (fun ρ => ((dSlc (dFldM 0 "Signs" "text") (oSo (dV 1)) (oSo (dFldM 0 "Signs" "at"))) ρ).bind S.fz) aNil)))
def den_Signs_number_s8 : Env → Out Res := (sIf (dOr (dAnd (d1 toB (d2 gtD (dA lenD (aCons (dV 3) aNil)) (dC (.int 1)))) (d1 toB (d2 eqD (d2 idxD (dV 3) (dC (.int 0))) (dC (.str "0"))))) (dAnd (d1 toB (d2 eqD (dV 3) (dC (.str "0")))) (d1 toB (d2 ltD (dV 1) (dV 2))))) (sSeq sStuck sNext) sNext)
def den_Signs_number_t8 : Env → Out (Env × D) := rSeq den_Signs_number_s8 den_Signs_number_t9
def den_Signs_number_s7 : Env → Out Res := (sIf (d1 toB (d2 eqD (dV 3) (dC (.str "")))) (sSeq sStuck sNext) sNext)
def den_Signs_number_t7 : Env → Out (Env × D) := rSeq den_Signs_number_s7 den_Signs_number_t8
def den_Signs_number_s6 : Env → Out Res := (sAsg 3 (fun ρ => ((dSlc (dFldM 0 "Signs" "text") (oSo (dV 2)) (oSo (dFldM 0 "Signs" "at"))) ρ).bind S.fz))
def den_Signs_number_t6 : Env → Out (Env × D) := rSeq den_Signs_number_s6 den_Signs_number_t7
def den_Signs_number_s5 : Env → Out Res := (sWhile 100000 (dAnd (d1 toB (d2 neD (dMethS 0 "Signs" "sees" m_Signs_sees) (dC (.str "")))) (d1 toB (d2 inD (dMethS 0 "Signs" "sees" m_Signs_sees) (dC (.str "0123456789"))))) den_Signs_number_b1)
def den_Signs_number_t5 : Env → Out (Env × D) := rSeq den_Signs_number_s5 den_Signs_number_t6
def den_Signs_number_s4 : Env → Out Res := (sAsg 2 (dFldM 0 "Signs" "at"))
def den_Signs_number_t4 : Env → Out (Env × D) := rSeq den_Signs_number_s4 den_Signs_number_t5
def den_Signs_number_s3 : Env → Out Res := (sIf (d1 toB (d2 eqD (dMethS 0 "Signs" "sees" m_Signs_sees) (dC (.str "-")))) (sSeq (sFset 0 "Signs" "at" (d2 addD (dFldM 0 "Signs" "at") (dC (.int 1)))) sNext) sNext)
def den_Signs_number_t3 : Env → Out (Env × D) := rSeq den_Signs_number_s3 den_Signs_number_t4
def den_Signs_number_s2 : Env → Out Res := (sAsg 1 (dFldM 0 "Signs" "at"))
def den_Signs_number_t2 : Env → Out (Env × D) := rSeq den_Signs_number_s2 den_Signs_number_t3
def den_Signs_number_s1 : Env → Out Res := (sFset 0 "Signs" "at" (d2 addD (dFldM 0 "Signs" "at") (dC (.int 1))))
def den_Signs_number_t1 : Env → Out (Env × D) := rSeq den_Signs_number_s1 den_Signs_number_t2
def den_Signs_number_s0 : Env → Out Res := (sIf (d1 toB (d2 neD (dMethS 0 "Signs" "sees" m_Signs_sees) (dC (.str " ")))) (sSeq sStuck sNext) sNext)
def den_Signs_number_t0 : Env → Out (Env × D) := rSeq den_Signs_number_s0 den_Signs_number_t1
def den_Signs_number : Env → Out (Env × D) := den_Signs_number_t0
def mo_Signs_number : List (Str × D) → Out (List (Str × D) × D) := runM 4 "Signs" den_Signs_number
def den_read_x1_s11 : Env → Out Res := (sIf (dAnd (d1 toB (d2 neD (dV 8) (dC (.str "")))) (d1 toB (d2 eqD (dFldM 1 "Signs" "at") (dA lenD (aCons (dV 0) aNil))))) (sSeq sStuck sNext) sNext)
def den_read_x1_t11 : Env → Out Res := sSeq den_read_x1_s11 (fun ρ => sNext (wipeE ρ [3, 4, 5, 7, 8]))
def den_read_x1_s10 : Env → Out Res := (sFset 1 "Signs" "at" (d2 addD (dFldM 1 "Signs" "at") (dC (.int 1))))
def den_read_x1_t10 : Env → Out Res := sSeq den_read_x1_s10 den_read_x1_t11
def den_read_x1_s9 : Env → Out Res := (sIf (d1 toB (d2 notinD (dV 8) (tupD (aCons (dC (.str "")) (aCons (dC (.str " ")) (aCons (dC (.str "\n")) aNil)))))) (sSeq sStuck sNext) sNext)
def den_read_x1_t9 : Env → Out Res := sSeq den_read_x1_s9 den_read_x1_t10
def den_read_x1_s8 : Env → Out Res := (sAsg 8 (dMethS 1 "Signs" "sees" m_Signs_sees))
def den_read_x1_t8 : Env → Out Res := sSeq den_read_x1_s8 den_read_x1_t9
def den_read_x1_s7 : Env → Out Res := (sMut2 2 (d1 negD (dC (.int 1))) (dV 7) kApp)
def den_read_x1_t7 : Env → Out Res := sSeq den_read_x1_s7 den_read_x1_t8
def den_read_x1_s6 : Env → Out Res := (sIf (d1 toB (d2 eqD (dV 5) (dC (.str "at")))) (sSeq (sAppL 2 (lstD aNil)) sNext) sNext)
def den_read_x1_t6 : Env → Out Res := sSeq den_read_x1_s6 den_read_x1_t7
def den_read_x1_s5 : Env → Out Res := (sAsgX 7 (xAdd (tupD (aCons (dV 5) aNil)) (xTuple (xLc [6] (dA rng1 (aCons (d2 subD (d1 (gidxT tt_COUNTS) (dV 5)) (dC (.int 1))) aNil)) (kName 6) (xMeth 1 "Signs" "number" mo_Signs_number)))))
def den_read_x1_t5 : Env → Out Res := sSeq den_read_x1_s5 den_read_x1_t6
def den_read_x1_s4 : Env → Out Res := (sFset 1 "Signs" "at" (d2 addD (dFldM 1 "Signs" "at") (dC (.int 1))))
def den_read_x1_t4 : Env → Out Res := sSeq den_read_x1_s4 den_read_x1_t5
def den_read_x1_s3 : Env → Out Res := (sAsg 5 (d1 (gidxT tt_LETTERS) (dV 3)))
def den_read_x1_t3 : Env → Out Res := sSeq den_read_x1_s3 den_read_x1_t4
def den_read_x1_s2 : Env → Out Res := (sIf (dOr (dNot (d1 truD (dV 4))) (dOr (dAnd (d1 toB (d2 eqD (dV 3) (dC (.str "M")))) (d1 toB (d2 eqD (dA lenD (aCons (dOwn 2) aNil)) (dC (.int 40))))) (dAnd (d1 toB (d2 neD (dV 3) (dC (.str "M")))) (d1 toB (d2 eqD (dA lenD (aCons (d2 idxD (dOwn 2) (d1 negD (dC (.int 1)))) aNil)) (dC (.int 200))))))) (sSeq sStuck sNext) sNext)
def den_read_x1_t2 : Env → Out Res := sSeq den_read_x1_s2 den_read_x1_t3
def den_read_x1_s1 : Env → Out Res := (sAsg 4 (dAndV (d1 (ginT tt_LETTERS) (dV 3)) (d2 eqD (d2 eqD (dV 3) (dC (.str "M"))) (dOrV (d1 notD (dOwn 2)) (dAndV (d2 gtD (dFldM 1 "Signs" "at") (dC (.int 0))) (d2 eqD (d2 idxD (dV 0) (d2 subD (dFldM 1 "Signs" "at") (dC (.int 1)))) (dC (.str "\n"))))))))
def den_read_x1_t1 : Env → Out Res := sSeq den_read_x1_s1 den_read_x1_t2
def den_read_b1 : Env → Out Res := (sSeq (sAsg 3 (dMethS 1 "Signs" "sees" m_Signs_sees)) den_read_x1_t1)
def den_read_s2 : Env → Out Res := (sWhile 100000 (d1 toB (d2 ltD (dFldM 1 "Signs" "at") (dA lenD (aCons (dV 0) aNil)))) den_read_b1)
def den_read_t2 : Env → Out Res := sSeq den_read_s2 (sSeq (sRetV 2) sNext)
def den_read_s1 : Env → Out Res := (sAsgE 2 (lstD aNil))
def den_read_t1 : Env → Out Res := sSeq den_read_s1 den_read_t2
def den_read : Env → Out Res := (sSeq (sAsgE 1 (dA (kMakeM "Signs" 1 mi_Signs) (sCons (toS (dV 0)) sNil))) den_read_t1)
def m_read : List S → Out S := runD 9 den_read
def den_look_way_b1 : Env → Out Res := (sSeq (sAsg 2 (d2 idxD (dV 0) (dV 1))) (sSeq (sIf (dOr (d1 toB (d2 neD (d1 (ggetD t_COUNTS) (d2 idxD (dV 2) (dC (.int 0)))) (dA lenD (aCons (dV 2) aNil)))) (dAnd (d1 toB (d2 gtD (dV 1) (dC (.int 0)))) (d1 toB (d2 eqD (d2 idxD (dV 2) (dC (.int 0))) (dC (.str "at")))))) (sSeq (sExc "BadOutline") sNext) sNext) (sSeq (sIf (dNot (d1 truD (dA allD (aCons (fun ρ => ((dLc [3] (d1 itT (fun ρ => ((dSlc (dV 2) (oSo (dC (.int 1))) oNo) ρ).bind S.fz)) (kName 3) yesT (dChain leD leD (d1 negD (dC (.int 100000))) (dV 3) (dC (.int 100000)))) ρ).bind S.fz) aNil)))) (sSeq (sExc "BadOutline") sNext) sNext) (fun ρ => sNext (wipeE ρ [1, 2])))))
def den_look_way : Env → Out Res := (sSeq (sIf (dOr (dNot (d1 toB (dChain leD leD (dC (.int 1)) (dA lenD (aCons (dV 0) aNil)) (dC (.int 200))))) (d1 toB (d2 neD (d2 idxD (d2 idxD (dV 0) (dC (.int 0))) (dC (.int 0))) (dC (.str "at"))))) (sSeq (sExc "BadOutline") sNext) sNext) (sSeq (sFor (dA rng1 (aCons (dA lenD (aCons (dV 0) aNil)) aNil)) (kName 1) den_look_way_b1) sNext))
def m_look_way : List S → Out S := runD 4 den_look_way
def den_look_outline_b1 : Env → Out Res := (sSeq (sDrop (dA (fun ss => guard' (ss.length = 1) (m_look_way ss)) (sCons (toS (dV 1)) sNil))) (fun ρ => sNext (wipeE ρ [1])))
def den_look_outline : Env → Out Res := (sSeq (sIf (d1 toB (d2 gtD (dA lenD (aCons (dV 0) aNil)) (dC (.int 40)))) (sSeq (sExc "BadOutline") sNext) sNext) (sSeq (sFor (d1 itL (dV 0)) (kName 1) den_look_outline_b1) sNext))
def m_look_outline : List S → Out S := runD 2 den_look_outline
def den_step_text : Env → Out Res := (sSeq (sAsg 2 (d2 idxD (fun ρ => ((dLc [1] (itT' tt_LETTERS) (kName 1) (d1 toB (d2 eqD (d1 (gidxT tt_LETTERS) (dV 1)) (d2 idxD (dV 0) (dC (.int 0))))) (dV 1)) ρ).bind S.fz) (dC (.int 0)))) (sSeq (sRet (fun ρ => ((d1 (joinD " ") (fun ρ => ((d2 catS (fun ρ => ((lstD (aCons (dV 2) aNil)) ρ).bind S.fz) (fun ρ => ((dLc [3] (d1 itT (fun ρ => ((dSlc (dV 0) (oSo (dC (.int 1))) oNo) ρ).bind S.fz)) (kName 3) yesT (dA strD (aCons (dV 3) aNil))) ρ).bind S.fz)) ρ).bind S.fz)) ρ).bind fun d => .ok (.d d))) sNext))
def m_step_text : List S → Out S := runD 4 den_step_text
def den_written_e1 : Env → Out D := (fun ρ => ((dA (fun ss => guard' (ss.length = 1) (m_step_text ss)) (sCons (toS (dV 2)) sNil)) ρ).bind S.fz)
def den_written_e2 : Env → Out D := (d1 (joinD " ") (fun ρ => ((dLc [2] (d1 itL (dV 1)) (kName 2) yesT den_written_e1) ρ).bind S.fz))
def den_written : Env → Out Res := (sSeq (sDrop (dA (fun ss => guard' (ss.length = 1) (m_look_outline ss)) (sCons (toS (dV 0)) sNil))) (sSeq (sRet (fun ρ => ((d1 (joinD "\n") (fun ρ => ((dLc [1] (d1 itL (dV 0)) (kName 1) yesT den_written_e2) ρ).bind S.fz)) ρ).bind fun d => .ok (.d d))) sNext))
def m_written : List S → Out S := runD 3 den_written
def den__law_whole : Env → Out Res := (sSeq (sRet (fun ρ => ((dAndV (d1 (isiD "int") (dV 0)) (d1 notD (d1 (isiD "bool") (dV 0)))) ρ).bind fun d => .ok (.d d))) sNext)
def m__law_whole : List S → Out S := runD 1 den__law_whole
def den_law_e1 : Env → Out D := (fun ρ => ((dA listS (aCons (dV 3) aNil)) ρ).bind S.fz)
def den_law_e2 : Env → Out D := (fun ρ => ((dA (fun ss => guard' (ss.length = 1) (m__law_whole ss)) (sCons (toS (dV 7)) sNil)) ρ).bind S.fz)
def den_law_b1 : Env → Out Res := (sSeq (sIf (dOr (dNot (d1 truD (d1 (isiD "tuple") (dV 6)))) (dNot (d1 truD (dA allD (aCons (fun ρ => ((dLc [7] (d1 itT (fun ρ => ((dSlc (dV 6) (oSo (dC (.int 1))) oNo) ρ).bind S.fz)) (kName 7) yesT den_law_e2) ρ).bind S.fz) aNil))))) (sSeq (sRet (fun ρ => ((dC (.bl false)) ρ).bind fun d => .ok (.d d))) sNext) sNext) (fun ρ => sNext (wipeE ρ [6])))
def den_law_b2 : Env → Out Res := (sSeq (sFor (d1 itL (dV 3)) (kName 6) den_law_b1) (fun ρ => sNext (wipeE ρ [3, 6])))
def den_law_s7 : Env → Out Res := (sMut 5 (dC (.int 0)) kApp)
def den_law_t7 : Env → Out Res := sSeq den_law_s7 (sSeq (sRet (fun ρ => ((d2 eqD (fun ρ => ((dA (fun ss => guard' (ss.length = 1) (m_read ss)) (sCons (toS (dV 2)) sNil)) ρ).bind S.fz) (dV 1)) ρ).bind fun d => .ok (.d d))) sNext)
def den_law_s6 : Env → Out Res := (sIf (d1 toB (d2 neD (dOwn 5) (dV 1))) (sSeq (sRet (fun ρ => ((dC (.bl false)) ρ).bind fun d => .ok (.d d))) sNext) sNext)
def den_law_t6 : Env → Out Res := sSeq den_law_s6 den_law_t7
def den_law_s5 : Env → Out Res := (sForO 5 (kName 3) den_law_b2)
def den_law_t5 : Env → Out Res := sSeq den_law_s5 den_law_t6
def den_law_s4 : Env → Out Res := (sAsgE 5 (dA (fun ss => guard' (ss.length = 1) (m_read ss)) (sCons (toS (dV 2)) sNil)))
def den_law_t4 : Env → Out Res := sSeq den_law_s4 (fun ρ => den_law_t5 (thawE ρ 5))
def den_law_s3 : Env → Out Res := (sIf (dOr (d1 toB (d2 neD (fun ρ => ((dA (fun ss => guard' (ss.length = 1) (m_written ss)) (sCons (toS (dV 4)) sNil)) ρ).bind S.fz) (dV 2))) (d1 toB (d2 neD (dV 4) (dV 1)))) (sSeq (sRet (fun ρ => ((dC (.bl false)) ρ).bind fun d => .ok (.d d))) sNext) sNext)
def den_law_t3 : Env → Out Res := sSeq den_law_s3 den_law_t4
def den_law_s2 : Env → Out Res := (sAsgE 4 (dLc [3] (d1 itL (dV 1)) (kName 3) yesT den_law_e1))
def den_law_t2 : Env → Out Res := sSeq den_law_s2 (fun ρ => den_law_t3 (frzE ρ 4))
def den_law_s1 : Env → Out Res := (sAsg 2 (fun ρ => ((dA (fun ss => guard' (ss.length = 1) (m__law_text ss)) (sCons (toS (dV 1)) sNil)) ρ).bind S.fz))
def den_law_t1 : Env → Out Res := sSeq den_law_s1 den_law_t2
def den_law : Env → Out Res := (sSeq (sAsg 1 (fun ρ => ((dA (fun ss => guard' (ss.length = 3) (m__law_outline ss)) (sCons (toS (dV 0)) (sCons (toS (dC (.int 0))) (sCons (toS (d2 idxD (fun ρ => ((lstD (aCons (dC (.int 50)) (aCons (dC (.int 100000)) aNil))) ρ).bind S.fz) (d2 modD (fun ρ => ((dA (fun ss => guard' (ss.length = 2) (m__law_mix ss)) (sCons (toS (dV 0)) (sCons (toS (dC (.int 80))) sNil))) ρ).bind S.fz) (dC (.int 2))))) sNil)))) ρ).bind S.fz)) den_law_t1)
def m_law : List S → Out S := runD 8 den_law
end G

set_option Elab.async false
set_option linter.all false
set_option maxRecDepth 100000
set_option maxHeartbeats 4000000
namespace G
open PySem L2
/-! ### own objects: evaluation -/
section
variable {ρ : Env} {i n : Nat} {c f m : Str} {fs : List (Str × D)} {d : D} {s : S}
theorem e_rseq {a : Env → Out Res} {g : Env → Out (Env × D)} : rSeq a g ρ = (a ρ).bind (kRSeq g) := (rfl)
theorem e_krseq {g : Env → Out (Env × D)} : kRSeq g (.next ρ) = g ρ := (rfl)
theorem e_rret {g : Env → Out D} : rRet g ρ = (g ρ).bind (kRRet ρ) := (rfl)
theorem e_krret : kRRet ρ d = .ok (ρ, d) := (rfl)
theorem e_runm {den : Env → Out (Env × D)} : runM n c den fs = (den (startE n [.m c fs])).bind (kRunM0 c) := (rfl)
theorem e_krunm0 : kRunM0 c (ρ, d) = kRunM c d ρ[0]? := (rfl)
theorem e_krunm : kRunM c d (some (some (.m c fs))) = .ok (fs, d) := by unfold kRunM; exact guard_t rfl
theorem e_fldm : dFldM i c f ρ = kFldM c f ρ[i]? := (rfl)
theorem e_kfldm : kFldM c f (some (some (.m c fs))) = oOf (fs.lookup f) := by unfold kFldM; exact guard_t rfl
theorem e_meths {mm : List S → Out S} : dMethS i c m mm ρ = kMethS c m mm ρ[i]? := (rfl)
theorem e_kmeths {mm : List S → Out S} (h : fs.lookup m = none) : kMethS c m mm (some (some (.m c fs))) = (mm [.o c fs]).bind scS := by unfold kMethS; exact guard_t ⟨rfl, h⟩
theorem e_fset {g : Env → Out D} : sFset i c f g ρ = (g ρ).bind (kFset0 i c f ρ) := (rfl)
theorem e_kfset0 : kFset0 i c f ρ d = kFset i c f ρ d ρ[i]? := (rfl)
theorem e_kfset (h : fs.length < 1000) : kFset i c f ρ d (some (some (.m c fs))) = .ok (.next (ρ.set i (some (.m c (putFD f d fs))))) := by unfold kFset; exact guard_t ⟨rfl, h⟩
theorem e_makem {mi : List S → Out (List (Str × D))} {ss : List S} : kMakeM c n mi ss = guard' (ss.length = n) ((noX (mi ss)).bind (kMkM c)) := (rfl)
theorem e_mkm : kMkM c fs = .ok (.m c fs) := (rfl)
def kInF (fl : Env → Out (List (Str × D))) (ρ : Env) : Bool → Out (List (Str × D))
  | true => fl ρ
  | false => .stuck
theorem e_initf {fl : Env → Out (List (Str × D))} {ss : List S} : initF n fl ss = kInF fl (startI n ss) (allDb (startI n ss)) := by
  unfold initF
  cases allDb (startI n ss) with
  | true => exact guard_t rfl
  | false => rfl
theorem e_kinf {fl : Env → Out (List (Str × D))} : kInF fl ρ true = fl ρ := (rfl)
theorem e_stuck : sStuck ρ = .stuck := (rfl)
theorem e_xmeth {mm : List (Str × D) → Out (List (Str × D) × D)} : xMeth i c m mm ρ = kMethX i c m mm ρ ρ[i]? := (rfl)
theorem e_kmethx {mm : List (Str × D) → Out (List (Str × D) × D)} (h : fs.lookup m = none) : kMethX i c m mm ρ (some (some (.m c fs))) = (mm fs).bind (kXm i c ρ) := by unfold kMethX; exact guard_t ⟨rfl, h⟩
theorem e_kxm {x : List (Str × D) × D} : kXm i c ρ x = .ok (ρ.set i (some (.m c x.1)), x.2) := (rfl)
theorem e_xadd {g : Env → Out D} {h : Env → Out (Env × D)} : xAdd g h ρ = (g ρ).bind (kXa0 h ρ) := (rfl)
theorem e_kxa0 {h : Env → Out (Env × D)} : kXa0 h ρ d = (h ρ).bind (kXa d) := (rfl)
theorem e_kxa {e : D} : kXa d (ρ, e) = (addD d e).bind (kXa2 ρ) := (rfl)
theorem e_kxa2 : kXa2 ρ d = .ok (ρ, d) := (rfl)
theorem e_xtuple {h : Env → Out (Env × D)} : xTuple h ρ = (h ρ).bind kXt := (rfl)
theorem e_kxt {xs : List D} : kXt (ρ, .lst xs) = .ok (ρ, .tup xs) := (rfl)
theorem e_asgx {h : Env → Out (Env × D)} : sAsgX i h ρ = (h ρ).bind (kXs i) := (rfl)
theorem e_kxs : kXs i (ρ, d) = .ok (.next (ρ.set i (some (.d d)))) := (rfl)
theorem e_xlc {vs : List Nat} {it : Env → Out (List D)} {k : D → Env → Out Env} {el : Env → Out (Env × D)} : xLc vs it k el ρ = (it ρ).bind (kLcX vs k el ρ) := (rfl)
theorem e_klcx {vs : List Nat} {k : D → Env → Out Env} {el : Env → Out (Env × D)} {ds : List D} : kLcX vs k el ρ ds = guard' (ds.length ≤ cap) ((lcX k el vs ds (wipeE ρ vs)).bind kXl) := (rfl)
theorem e_kxl {y : List D} : kXl (ρ, y) = .ok (ρ, .lst y) := (rfl)
end
/-! ### texts as lists -/
abbrev mkS (l : List Nat) : Str := ⟨l.toArray⟩
theorem mkS_len (l : List Nat) : (mkS l).length = l.length := by unfold Str.length; simp
theorem mkS_inj {a b : List Nat} (h : mkS a = mkS b) : a = b := by
  have := congrArg (fun x : Str => x.cps.toList) h
  simpa using this
theorem mkS_beq (a b : List Nat) : (mkS a == mkS b) = decide (a = b) := by
  by_cases h : a = b
  · subst h; simp
  · rw [decide_eq_false h]
    exact beq_false_of_ne fun z => h (mkS_inj z)
theorem mkS_tl (x : Str) : mkS x.cps.toList = x := TL.mk_tl x
theorem cut_mid {α : Type} (xs : List α) (a b : Nat) : cutD xs (some (a : Int)) (some (b : Int)) = (xs.drop a).take (b - a) := by
  unfold cutD
  rw [HT.sIx_nat, HT.sIx_nat]
  by_cases h : a ≤ xs.length
  · rw [show min a xs.length = a by omega, List.take_eq_take_iff, List.length_drop]
    omega
  · rw [show min a xs.length = xs.length by omega, List.drop_eq_nil_of_le (Nat.le_refl _), List.drop_eq_nil_of_le (by omega), List.take_nil, List.take_nil]
theorem slc_str (T : List Nat) (a b : Nat) (h : T.length ≤ 1000000) : slcS (.str (mkS T)) (some (a : Int)) (some (b : Int)) = .ok (.d (.str (mkS ((T.drop a).take (b - a))))) := by
  show guard' ((mkS T).length ≤ cap) (Out.ok (S.d (D.str (mkS (cutD T (some (a : Int)) (some (b : Int))))))) = _
  rw [guard_t (show (mkS T).length ≤ cap by rw [mkS_len]; exact h), cut_mid]
theorem len_str (T : List Nat) (h : T.length ≤ 1000000) : lenD [.str (mkS T)] = .ok (.int T.length) := by
  show guard' ((mkS T).length ≤ cap) (Out.ok (D.int (mkS T).length)) = _
  rw [guard_t (show (mkS T).length ≤ cap by rw [mkS_len]; exact h), mkS_len]
theorem ix_str (T : List Nat) (a : Nat) (c : Nat) (h : T.length ≤ 1000000) (e : T[a]? = some c) : idxD (.str (mkS T)) (.int (a : Int)) = .ok (.str (mkS [c])) := by
  show guard' ((mkS T).length ≤ cap) (oOf ((atI T (a : Int)).map fun c => D.str (mkS [c]))) = _
  rw [guard_t (show (mkS T).length ≤ cap by rw [mkS_len]; exact h), atNat, e]; rfl
theorem eq_str (a b : List Nat) : eqD (.str (mkS a)) (.str (mkS b)) = .ok (.bl (decide (a = b))) := by rw [eqD_ss, mkS_beq]
theorem ne_str' (a b : List Nat) : neD (.str (mkS a)) (.str (mkS b)) = .ok (.bl (!decide (a = b))) := by
  unfold neD; rw [guard_t (show eqOk (.str (mkS a)) (.str (mkS b)) from rfl), eqv_ss, mkS_beq]
theorem in_str (T : List Nat) (c : Nat) : inD (.str (mkS [c])) (.str (mkS T)) = .ok (.bl (decide (c ∈ T))) := by
  show Out.ok (D.bl (inStr (mkS T) (mkS [c]))) = _
  rw [show inStr (mkS T) (mkS [c]) = decide (c ∈ T) from StrLaws.found_one (mkS T) c]
/-! ### numbers as texts -/
def numZ (n : Int) : List Nat := if n < 0 then 45 :: TL.numL n.natAbs else TL.numL n.natAbs
def isFig (c : Nat) : Bool := decide (48 ≤ c) && decide (c ≤ 57)
theorem isFig_mem (c : Nat) : decide (c ∈ ([48, 49, 50, 51, 52, 53, 54, 55, 56, 57] : List Nat)) = isFig c := by
  unfold isFig
  by_cases h : 48 ≤ c ∧ c ≤ 57
  · rw [decide_eq_true h.1, decide_eq_true h.2]
    have : c = 48 ∨ c = 49 ∨ c = 50 ∨ c = 51 ∨ c = 52 ∨ c = 53 ∨ c = 54 ∨ c = 55 ∨ c = 56 ∨ c = 57 := by omega
    simp [this]
  · have : ¬ (c = 48 ∨ c = 49 ∨ c = 50 ∨ c = 51 ∨ c = 52 ∨ c = 53 ∨ c = 54 ∨ c = 55 ∨ c = 56 ∨ c = 57) := by omega
    rw [decide_eq_false (by simpa using this)]
    by_cases h1 : 48 ≤ c
    · rw [decide_eq_true h1, decide_eq_false (by omega)]; rfl
    · rw [decide_eq_false h1]; rfl
theorem isFig_iff {c : Nat} : isFig c = true ↔ 48 ≤ c ∧ c ≤ 57 := by unfold isFig; simp
theorem int_fig {w : List Nat} (h : ∀ c ∈ w, isFig c = true) (h0 : w ≠ []) (h1 : w.length ≤ 600) : intD [.str (mkS w)] = .ok (.int (NumText.digitsVal w : Nat)) := by
  show guard' ((mkS w).length ≤ 640) (oOf ((PySem.intText? (mkS w)).map D.int)) = _
  rw [guard_t (show (mkS w).length ≤ 640 by rw [mkS_len]; omega), PySem.intText_digits (x := mkS w) (fun c hc => isFig_iff.mp (h c hc)) h0 (by rw [mkS_len]; omega)]
  rfl
theorem int_neg {w : List Nat} (h : ∀ c ∈ w, isFig c = true) (h0 : w ≠ []) (h1 : w.length ≤ 600) : intD [.str (mkS (45 :: w))] = .ok (.int (-(NumText.digitsVal w : Nat))) := by
  show guard' ((mkS (45 :: w)).length ≤ 640) (oOf ((PySem.intText? (mkS (45 :: w))).map D.int)) = _
  rw [guard_t (show (mkS (45 :: w)).length ≤ 640 by rw [mkS_len, List.length_cons]; omega), PySem.intText_neg (x := mkS (45 :: w)) (cs := w) rfl (fun c hc => isFig_iff.mp (h c hc)) h0 (by rw [mkS_len, List.length_cons]; omega)]
  rfl
theorem str_num (n : Int) : ((toString n : String) : Str) = mkS (numZ n) := by
  refine TL.ext_tl ?_
  show TL.tl (Str.ofString (toString n)) = numZ n
  unfold numZ
  by_cases h : n < 0
  · obtain ⟨k, rfl⟩ : ∃ k : Nat, n = Int.negSucc k := ⟨(-n - 1).toNat, by omega⟩
    rw [if_pos h, TL.tl_ofString]
    have e : (toString (Int.negSucc k)).toList = '-' :: (toString (k + 1)).toList := by
      show ("-" ++ toString (k + 1)).toList = _
      rw [String.toList_append]; rfl
    rw [e, List.map_cons, ← TL.tl_ofString]
    have : TL.tl (Str.ofString (toString (k + 1))) = TL.numL (k + 1) := TL.tl_num (k + 1)
    rw [this]; rfl
  · obtain ⟨k, rfl⟩ := Int.eq_ofNat_of_zero_le (show 0 ≤ n by omega)
    rw [if_neg h]; exact TL.tl_num k
theorem str_d {n : Int} (h : -10000000 ≤ n ∧ n ≤ 10000000) : strD [.int n] = .ok (.str (mkS (numZ n))) := by
  show guard' (n.natAbs.log2 < 1920) (Out.ok (D.str ((toString n : String) : Str))) = _
  rw [guard_t (show n.natAbs.log2 < 1920 from ?_), str_num]
  have h1 : n.natAbs < 2 ^ 64 := by omega
  have h2 : n.natAbs.log2 ≤ 64 := by
    by_cases z : n.natAbs = 0
    · rw [z]; decide
    · have := (Nat.log2_lt z).mpr h1; omega
  omega
end G

set_option Elab.async false
set_option linter.all false
set_option maxRecDepth 100000
set_option maxHeartbeats 4000000
namespace G
open PySem L2
/-! ### reading, in plain lists -/
inductive Rd where
  | ok (k : Nat) (v : Int) | bad (p : Nat)
def sgn (m : Bool) (n : Nat) : Int := if m = true then -(n : Int) else n
def rdW (s : Nat) (m : Bool) (w : List Nat) : Rd :=
  if w = [] then .bad s else if (1 < w.length ∧ w[0]? = some 48) ∨ (w = [48] ∧ m = true) then .bad 1 else if 6 < w.length ∨ 100000 < NumText.digitsVal w then .bad 1 else .ok (s + w.length) (sgn m (NumText.digitsVal w))
def rdNum (R : List Nat) : Rd :=
  if R.take 1 = [32] then if (R.drop 1).take 1 = [45] then rdW 2 true ((R.drop 2).takeWhile isFig) else rdW 1 false ((R.drop 1).takeWhile isFig) else .bad 0
inductive RdL where
  | ok (k : Nat) (vs : List Int) | bad (p : Nat)
def rdPut (k : Nat) (v : Int) : RdL → RdL
  | .bad p => .bad (k + p)
  | .ok k' vs => .ok (k + k') (v :: vs)
def rdNext (f : List Nat → RdL) (R : List Nat) : Rd → RdL
  | .bad p => .bad p
  | .ok k v => rdPut k v (f (R.drop k))
def rdNums : Nat → List Nat → RdL
  | 0, _ => .ok 0 []
  | n + 1, R => rdNext (rdNums n) R (rdNum R)
/-! ### steps -/
abbrev Sn := Nat × List Int
def isLet (c : Nat) : Bool := c == 77 || c == 76 || c == 81
def wl (c : Nat) : Str := if c = 77 then "at" else if c = 76 then "to" else "by"
def cnt (c : Nat) : Nat := if c = 81 then 4 else 2
def snD (s : Sn) : D := .tup (.str (wl s.1) :: s.2.map .int)
def addL : List (List Sn) → Sn → List (List Sn)
  | [], s => [[s]]
  | [l], s => [l ++ [s]]
  | l :: m :: r, s => l :: addL (m :: r) s
theorem addL_app (l : List Sn) (s : Sn) : ∀ G : List (List Sn), addL (G ++ [l]) s = G ++ [l ++ [s]]
  | [] => rfl
  | [g] => rfl
  | g :: h :: r => by
    show g :: addL (h :: r ++ [l]) s = _
    rw [addL_app l s (h :: r)]; rfl
def addS (F : List (List Sn)) (s : Sn) : List (List Sn) := if s.1 = 77 then F ++ [[s]] else addL F s
def lastLen (F : List (List Sn)) : Nat := (F.getLastD []).length
theorem lastLen_app (G : List (List Sn)) (l : List Sn) : lastLen (G ++ [l]) = l.length := by unfold lastLen; rw [List.getLastD_concat]
def badLet (b : Bool) (F : List (List Sn)) (c : Nat) : Bool := !(isLet c && ((c == 77) == b)) || ((c == 77 && F.length == 40) || (c != 77 && lastLen F == 200))
inductive RdA where
  | ok (F : List (List Sn)) | bad (p : Nat) | out
def rdTail (f : Bool → List Nat → Nat → RdA) (F : List (List Sn)) (a : Nat) : List Nat → RdA
  | [] => .ok F
  | e :: R => if e = 32 ∨ e = 10 then if R = [] then .bad (a + 1) else f (e == 10) R (a + 1) else .bad a
theorem rdTail_go {f : Bool → List Nat → Nat → RdA} {F : List (List Sn)} {a e : Nat} {R : List Nat} (h : e = 32 ∨ e = 10) (hR : R ≠ []) : rdTail f F a (e :: R) = f (e == 10) R (a + 1) := by
  show (if e = 32 ∨ e = 10 then if R = [] then RdA.bad (a + 1) else f (e == 10) R (a + 1) else RdA.bad a) = _
  rw [if_pos h, if_neg hR]
def rdGo (f : List (List Sn) → Bool → List Nat → Nat → RdA) (F : List (List Sn)) (c : Nat) (R : List Nat) (a : Nat) : RdL → RdA
  | .bad p => .bad (a + p)
  | .ok k vs => rdTail (f (addS F (c, vs))) (addS F (c, vs)) (a + k) (R.drop k)
/-- the reading of the rest R, which begins at the place a -/
def rdA : Nat → List (List Sn) → Bool → List Nat → Nat → RdA
  | 0, _, _, _, _ => .out
  | n + 1, F, b, [], a => .ok F
  | n + 1, F, b, c :: R, a => if badLet b F c = true then .bad a else rdGo (rdA n) F c R (a + 1) (rdNums (cnt c) R)
/-! ### writing -/
def numT (v : Int) : List Nat := 32 :: numZ v
def snT (s : Sn) : List Nat := s.1 :: (s.2.map numT).flatten
def restT (l : List Sn) (Ws : List (List Sn)) : List Nat := (l.map fun s => 32 :: snT s).flatten ++ (Ws.map fun w => 10 :: TL.joinL [32] (w.map snT)).flatten
def outT (F : List (List Sn)) : List Nat := TL.joinL [10] (F.map fun w => TL.joinL [32] (w.map snT))
theorem joinL_cons (S p : List Nat) : ∀ r : List (List Nat), TL.joinL S (p :: r) = p ++ (r.map fun x => S ++ x).flatten
  | [] => by show p = _; simp
  | q :: r => by
    show p ++ (S ++ TL.joinL S (q :: r)) = _
    rw [joinL_cons S q r, List.map_cons, List.flatten_cons, List.append_assoc]
theorem wayT_cons (s : Sn) (l : List Sn) : TL.joinL [32] ((s :: l).map snT) = snT s ++ (l.map fun s => 32 :: snT s).flatten := by
  rw [List.map_cons, joinL_cons, List.map_map]; rfl
theorem outT_cons (s : Sn) (l : List Sn) (Ws : List (List Sn)) : outT ((s :: l) :: Ws) = snT s ++ restT l Ws := by
  unfold outT restT
  rw [List.map_cons, joinL_cons, wayT_cons, List.append_assoc, List.map_map]; rfl
/-! ### numbers -/
theorem numL_head : ∀ n : Nat, 1 ≤ n → ∃ c r, TL.numL n = c :: r ∧ 49 ≤ c ∧ c ≤ 57 := by
  intro n
  induction n using Nat.strongRecOn with
  | _ n ih =>
    intro h
    by_cases h1 : n < 10
    · exact ⟨_, [], TL.numL_lt h1, by omega, by omega⟩
    · obtain ⟨c, r, e, h2⟩ := ih (n / 10) (by omega) (by omega)
      exact ⟨c, r ++ _, by rw [TL.numL_step (by omega), e, List.cons_append], h2⟩
theorem numL_fig (n : Nat) : ∀ c ∈ TL.numL n, isFig c = true := fun c h => isFig_iff.mpr (TL.numL_digits n c h)
def noFig (R : List Nat) : Prop := ∀ c r, R = c :: r → isFig c = false
theorem tw_app {w R : List Nat} (h : ∀ c ∈ w, isFig c = true) (hR : noFig R) : (w ++ R).takeWhile isFig = w := by
  rw [List.takeWhile_append_of_pos h]
  cases R with
  | nil => simp
  | cons c r => rw [List.takeWhile_cons, if_neg (by rw [hR c r rfl]; decide), List.append_nil]
theorem rdW_num (s : Nat) (m : Bool) (n : Nat) (hn : n ≤ 100000) (hm : m = true → 1 ≤ n) : rdW s m (TL.numL n) = .ok (s + (TL.numL n).length) (sgn m n) := by
  unfold rdW
  have hl : (TL.numL n).length ≤ 6 := TL.numL_len (by decide) (by omega)
  rw [if_neg (TL.numL_ne n), if_neg, if_neg, TL.numL_val]
  · rw [TL.numL_val]; omega
  · rintro (⟨h1, h2⟩ | ⟨h1, h2⟩)
    · by_cases h : 1 ≤ n
      · obtain ⟨c, r, e, h3, _⟩ := numL_head n h
        rw [e] at h2
        have h2 : some c = some 48 := h2
        cases h2; omega
      · have : n = 0 := by omega
        subst this
        rw [TL.numL_lt (by decide)] at h1; simp at h1
    · obtain ⟨c, r, e, h3, _⟩ := numL_head n (hm h2)
      rw [e] at h1
      cases h1; omega
theorem rdNum_fwd (v : Int) (hv : -100000 ≤ v ∧ v ≤ 100000) (R : List Nat) (hR : noFig R) : rdNum (numT v ++ R) = .ok (numT v).length v := by
  unfold rdNum numT numZ
  by_cases h : v < 0
  · rw [if_pos h]
    have e0 : (32 :: 45 :: TL.numL v.natAbs ++ R).take 1 = [32] := rfl
    have e1 : ((32 :: 45 :: TL.numL v.natAbs ++ R).drop 1).take 1 = [45] := rfl
    have e2 : (32 :: 45 :: TL.numL v.natAbs ++ R).drop 2 = TL.numL v.natAbs ++ R := rfl
    rw [if_pos e0, if_pos e1, e2, tw_app (numL_fig _) hR, rdW_num 2 true v.natAbs (by omega) fun _ => by omega]
    congr 1
    · simp only [List.length_cons]; omega
    · unfold sgn; rw [if_pos rfl]; omega
  · rw [if_neg h]
    have e0 : (32 :: TL.numL v.natAbs ++ R).take 1 = [32] := rfl
    have e2 : (32 :: TL.numL v.natAbs ++ R).drop 1 = TL.numL v.natAbs ++ R := rfl
    have e1 : ¬ (TL.numL v.natAbs ++ R).take 1 = [45] := by
      cases q : TL.numL v.natAbs with
      | nil => exact absurd q (TL.numL_ne _)
      | cons c r =>
        have := TL.numL_digits v.natAbs c (by rw [q]; exact List.mem_cons_self)
        intro z
        have z : [c] = [45] := z
        cases z; omega
    rw [if_pos e0, e2, if_neg e1, tw_app (numL_fig _) hR, rdW_num 1 false v.natAbs (by omega) fun z => by cases z]
    congr 1
    · simp only [List.length_cons]; omega
    · unfold sgn; rw [if_neg (by decide)]; omega
def inB (v : Int) : Prop := -100000 ≤ v ∧ v ≤ 100000
theorem noFig_numT (v : Int) (R : List Nat) : noFig (numT v ++ R) := fun c r e => by
  unfold numT at e
  have e : 32 :: (numZ v ++ R) = c :: r := e
  cases e; rfl
theorem noFig_nums (R : List Nat) (hR : noFig R) : ∀ vs : List Int, noFig ((vs.map numT).flatten ++ R)
  | [] => hR
  | v :: vs => by rw [List.map_cons, List.flatten_cons, List.append_assoc]; exact noFig_numT v _
theorem rdNums_fwd (R : List Nat) (hR : noFig R) : ∀ vs : List Int, (∀ v ∈ vs, inB v) → rdNums vs.length ((vs.map numT).flatten ++ R) = .ok (vs.map numT).flatten.length vs
  | [], _ => rfl
  | v :: vs, h => by
    show rdNext (rdNums vs.length) _ (rdNum _) = _
    rw [List.map_cons, List.flatten_cons, List.append_assoc, rdNum_fwd v (h v List.mem_cons_self) _ (noFig_nums R hR vs)]
    show rdPut _ v (rdNums vs.length (List.drop (numT v).length (numT v ++ _))) = _
    rw [List.drop_left, rdNums_fwd R hR vs fun x hx => h x (List.mem_cons_of_mem _ hx), List.length_append]; rfl
/-! ### the whole, forward -/
structure OkS (s : Sn) : Prop where
  l : isLet s.1 = true
  n : s.2.length = cnt s.1
  b : ∀ v ∈ s.2, inB v
structure OkW (w : List Sn) : Prop where
  ne : ∃ s l, w = s :: l ∧ s.1 = 77 ∧ ∀ x ∈ l, x.1 ≠ 77
  ok : ∀ s ∈ w, OkS s
  len : w.length ≤ 200
theorem noFig_rest : ∀ (l : List Sn) (Ws : List (List Sn)), noFig (restT l Ws)
  | s :: l, Ws, c, r, e => by
    unfold restT at e
    rw [List.map_cons, List.flatten_cons] at e
    have e : 32 :: _ = c :: r := e
    cases e; rfl
  | [], w :: Ws, c, r, e => by
    unfold restT at e
    rw [List.map_nil, List.flatten_nil, List.nil_append, List.map_cons, List.flatten_cons] at e
    have e : 10 :: _ = c :: r := e
    cases e; rfl
  | [], [], c, r, e => by cases e
theorem restT_cons (s : Sn) (l : List Sn) (Ws : List (List Sn)) : restT (s :: l) Ws = 32 :: (snT s ++ restT l Ws) := by
  unfold restT
  rw [List.map_cons, List.flatten_cons, List.cons_append, List.cons_append, List.append_assoc]
theorem restT_way (s : Sn) (l : List Sn) (Ws : List (List Sn)) : restT [] ((s :: l) :: Ws) = 10 :: (snT s ++ restT l Ws) := by
  unfold restT
  rw [List.map_nil, List.flatten_nil, List.nil_append, List.map_cons, List.flatten_cons, wayT_cons, List.cons_append, List.append_assoc]
theorem snT_ne (s : Sn) (R : List Nat) : snT s ++ R ≠ [] := by unfold snT; simp
theorem badLet_M {F : List (List Sn)} (h : F.length < 40) : badLet true F 77 = false := by
  unfold badLet
  have : (F.length == 40) = false := by simp; omega
  rw [this]; rfl
theorem badLet_s {G : List (List Sn)} {cur : List Sn} {c : Nat} (hl : isLet c = true) (hc : c ≠ 77) (h : cur.length < 200) : badLet false (G ++ [cur]) c = false := by
  unfold badLet
  have h1 : (c == 77) = false := by simpa using hc
  have h2 : (lastLen (G ++ [cur]) == 200) = false := by rw [lastLen_app]; simp; omega
  rw [hl, h1, h2]; simp
theorem rdA_fwd : ∀ (n : Nat) (F G : List (List Sn)) (cur : List Sn) (b : Bool) (s : Sn) (l : List Sn) (Ws : List (List Sn)) (a : Nat), (snT s ++ restT l Ws).length < n → addS F s = G ++ [cur] → badLet b F s.1 = false → OkS s →
    (∀ x ∈ l, OkS x ∧ x.1 ≠ 77) → (∀ w ∈ Ws, OkW w) → cur.length + l.length ≤ 200 → G.length + 1 + Ws.length ≤ 40 → rdA n F b (snT s ++ restT l Ws) a = .ok (G ++ [cur ++ l] ++ Ws)
  | 0, _, _, _, _, _, _, _, _, h, _, _, _, _, _, _, _ => absurd h (Nat.not_lt_zero _)
  | n + 1, F, G, cur, b, s, l, Ws, a, hn, hF, hb, hs, hl, hW, h1, h2 => by
    have e0 : snT s ++ restT l Ws = s.1 :: ((s.2.map numT).flatten ++ restT l Ws) := rfl
    rw [e0] at hn ⊢
    show (if badLet b F s.1 = true then _ else rdGo (rdA n) F s.1 ((s.2.map numT).flatten ++ restT l Ws) (a + 1) (rdNums (cnt s.1) ((s.2.map numT).flatten ++ restT l Ws))) = _
    rw [hb, if_neg Bool.false_ne_true, ← hs.n, rdNums_fwd _ (noFig_rest l Ws) s.2 hs.b]
    show rdTail (rdA n (addS F s)) (addS F s) _ (List.drop _ _) = _
    rw [List.drop_left, hF]
    cases l with
    | nil =>
      cases Ws with
      | nil => 
        show RdA.ok _ = _
        rw [List.append_nil, List.append_nil]
      | cons w Ws =>
        obtain ⟨s', l', rfl, hs', hl'⟩ := (hW w List.mem_cons_self).ne
        have ok := hW _ List.mem_cons_self
        rw [restT_way] at hn ⊢
        rw [rdTail_go (Or.inr rfl) (snT_ne _ _)]
        have hlen := ok.len
        rw [List.length_cons] at hlen
        have := rdA_fwd n (G ++ [cur]) (G ++ [cur]) [s'] true s' l' Ws (a + 1 + (s.2.map numT).flatten.length + 1) (by
          simp only [List.length_cons, List.length_append] at hn ⊢; omega) (by unfold addS; rw [if_pos hs']) (by rw [hs']; exact badLet_M (by simp at h2 ⊢; omega)) (ok.ok _ List.mem_cons_self)
          (fun x hx => ⟨ok.ok x (List.mem_cons_of_mem _ hx), hl' x hx⟩) (fun w hw => hW w (List.mem_cons_of_mem _ hw)) (by simp; omega) (by simp at h2 ⊢; omega)
        rw [show ((10 : Nat) == 10) = true from rfl, this]
        simp
    | cons s' l' =>
      obtain ⟨ok, hne⟩ := hl s' List.mem_cons_self
      rw [restT_cons] at hn ⊢
      rw [rdTail_go (Or.inl rfl) (snT_ne _ _)]
      rw [List.length_cons] at h1
      have := rdA_fwd n (G ++ [cur]) G (cur ++ [s']) false s' l' Ws (a + 1 + (s.2.map numT).flatten.length + 1) (by
          simp only [List.length_cons, List.length_append] at hn ⊢; omega) (by unfold addS; rw [if_neg hne, addL_app]) (badLet_s ok.l hne (by omega)) ok
          (fun x hx => hl x (List.mem_cons_of_mem _ hx)) hW (by simp; omega) h2
      rw [show ((32 : Nat) == 10) = false from rfl, this]
      simp
theorem rdA_out (F : List (List Sn)) (h : ∀ w ∈ F, OkW w) (hl : F.length ≤ 40) (n : Nat) (hn : (outT F).length < n) : rdA n [] true (outT F) 0 = .ok F := by
  cases F with
  | nil =>
    cases n with
    | zero => exact absurd hn (Nat.not_lt_zero _)
    | succ n => rfl
  | cons w Ws =>
    obtain ⟨s, l, rfl, hs, hl'⟩ := (h w List.mem_cons_self).ne
    have ok := h _ List.mem_cons_self
    have hlen := ok.len
    rw [List.length_cons] at hlen hl
    rw [outT_cons] at hn ⊢
    have := rdA_fwd n [] [] [s] true s l Ws 0 hn (by unfold addS; rw [if_pos hs]) (by rw [hs]; exact badLet_M (by decide)) (ok.ok _ List.mem_cons_self)
      (fun x hx => ⟨ok.ok x (List.mem_cons_of_mem _ hx), hl' x hx⟩) (fun w hw => h w (List.mem_cons_of_mem _ hw)) (by simp; omega) (by simp; omega)
    rw [this]; rfl
end G

set_option Elab.async false
set_option linter.all false
set_option maxRecDepth 100000
set_option maxHeartbeats 4000000
namespace G
open PySem L2
/-! ### the law's own numbers -/
def cellF (ns : List Int) (k : Int) : Int := (ns[(k % ns.length).toNat]?).getD 0
theorem cell_spec (ns : List Int) (k : Int) : m__law_cell [.d (.scr ns), .d (.int k)] = .ok (.d (.int (cellF ns k))) := by
  cases ns with
  | nil => rfl
  | cons x r =>
    have h0 : (0 : Int) < ((x :: r).length : Nat) := by simp only [List.length_cons]; omega
    have h1 := Int.emod_nonneg k (show ((x :: r).length : Int) ≠ 0 by omega)
    have h2 := Int.emod_lt_of_pos k h0
    have e : (x :: r)[(k % ((x :: r).length : Nat)).toNat]? = some (cellF (x :: r) k) := by
      unfold cellF
      rw [List.getElem?_eq_getElem (by omega)]; rfl
    generalize hn : (x :: r) = ns at *
    have he : (!ns.isEmpty) = true := by rw [← hn]; rfl
    simp only [m__law_cell, den__law_cell, sSeq, sIf, sRet, sRetV, sRetN, sAsg, sAsgE, sDrop, sNext, sMut, sSet, sUnp, sPar, sExc, sFor, d1, d2, dA, dC, dV, dOwn, dOit, dOix, dVS, toS, aNil, aCons, sNil, sCons, tupD, lstD, dSlc, slcS, oNo, oSo, dIf, dAnd, dOr, dNot, dAndV, dOrV, dChain, toB, notD, negD, addD, subD, ltD, leD, gtD, geD, eqD_ii, neD_ii, eqD_in, neD_in, eqD_ss, idxD, truD, lenD, absD, maxD, minD, catS, listS, tupleD, isND, isnotND, isNS, isnotNS, isNo, ok_bind, bind_exc, bind_stuck, fz_d, fz_l, fz_ll, runD, endD, startE, wipeE, frzE, kName, kNames, kApp, kExt, setAll, oOf_some, noX_k, yesT, scS, scD,
  List.map_cons, List.map_nil, List.length_cons, List.length_nil, List.replicate, List.cons_append, List.nil_append, List.getElem?_cons_zero, List.getElem?_cons_succ, List.set_cons_zero, List.set_cons_succ, List.set_nil, Nat.reduceAdd, Nat.reduceSub, Nat.reduceLeDiff, Nat.reduceLT, guard_tt, ↓reduceIte, Bool.false_eq_true, Bool.not_true, Bool.not_false, Nat.zero_add, mod_i h0, atI_nn h1, e, he, Option.map_some]
def mix1 (ns : List Int) (k : Int) : Int := (cellF ns k + 104729 * (k + 1)) % 4294967291
def mix2 (ns : List Int) (k : Int) : Int := mix1 ns k ^ 5 % 4294967279
def mixF (ns : List Int) (k : Int) : Int := (mix2 ns k / 64 * 69621 + mix2 ns k) % 4294967231
theorem mix1_nn (ns : List Int) (k : Int) : 0 ≤ mix1 ns k ∧ mix1 ns k < 4294967291 := by unfold mix1; omega
theorem mix_nn (ns : List Int) (k : Int) : 0 ≤ mixF ns k ∧ mixF ns k < 4294967231 := by unfold mixF; omega
theorem mix_spec (ns : List Int) (k : Int) : m__law_mix [.d (.scr ns), .d (.int k)] = .ok (.d (.int (mixF ns k))) := by
  have h1 := mix1_nn ns k
  have hp : powOk (mix1 ns k) 5 := ⟨by decide, by decide, by omega⟩
  have hm : mulOk 104729 (k + 1) := mulOk_l (by decide)
  have hm2 : mulOk (mix2 ns k / 64) 69621 := mulOk_r (by decide)
  have hd : divOk 64 := divOk_s (by decide)
  simp only [m__law_mix, den__law_mix, sSeq, sIf, sRet, sRetV, sRetN, sAsg, sAsgE, sDrop, sNext, sMut, sSet, sUnp, sPar, sExc, sFor, d1, d2, dA, dC, dV, dOwn, dOit, dOix, dVS, toS, aNil, aCons, sNil, sCons, tupD, lstD, dSlc, slcS, oNo, oSo, dIf, dAnd, dOr, dNot, dAndV, dOrV, dChain, toB, notD, negD, addD, subD, ltD, leD, gtD, geD, eqD_ii, neD_ii, eqD_in, neD_in, eqD_ss, idxD, truD, lenD, absD, maxD, minD, catS, listS, tupleD, isND, isnotND, isNS, isnotNS, isNo, ok_bind, bind_exc, bind_stuck, fz_d, fz_l, fz_ll, runD, endD, startE, wipeE, frzE, kName, kNames, kApp, kExt, setAll, oOf_some, noX_k, yesT, scS, scD,
  List.map_cons, List.map_nil, List.length_cons, List.length_nil, List.replicate, List.cons_append, List.nil_append, List.getElem?_cons_zero, List.getElem?_cons_succ, List.set_cons_zero, List.set_cons_succ, List.set_nil, Nat.reduceAdd, Nat.reduceSub, Nat.reduceLeDiff, Nat.reduceLT, guard_tt, ↓reduceIte, Bool.false_eq_true, Bool.not_true, Bool.not_false, Nat.zero_add, cell_spec, mul_i hm, mod_i (show (0 : Int) < 4294967291 by decide)]
  simp only [show (cellF ns k + 104729 * (k + 1)) % 4294967291 = mix1 ns k from rfl, sSeq, sIf, sRet, sRetV, sRetN, sAsg, sAsgE, sDrop, sNext, sMut, sSet, sUnp, sPar, sExc, sFor, d1, d2, dA, dC, dV, dOwn, dOit, dOix, dVS, toS, aNil, aCons, sNil, sCons, tupD, lstD, dSlc, slcS, oNo, oSo, dIf, dAnd, dOr, dNot, dAndV, dOrV, dChain, toB, notD, negD, addD, subD, ltD, leD, gtD, geD, eqD_ii, neD_ii, eqD_in, neD_in, eqD_ss, idxD, truD, lenD, absD, maxD, minD, catS, listS, tupleD, isND, isnotND, isNS, isnotNS, isNo, ok_bind, bind_exc, bind_stuck, fz_d, fz_l, fz_ll, runD, endD, startE, wipeE, frzE, kName, kNames, kApp, kExt, setAll, oOf_some, noX_k, yesT, scS, scD,
  List.map_cons, List.map_nil, List.length_cons, List.length_nil, List.replicate, List.cons_append, List.nil_append, List.getElem?_cons_zero, List.getElem?_cons_succ, List.set_cons_zero, List.set_cons_succ, List.set_nil, Nat.reduceAdd, Nat.reduceSub, Nat.reduceLeDiff, Nat.reduceLT, guard_tt, ↓reduceIte, Bool.false_eq_true, Bool.not_true, Bool.not_false, Nat.zero_add, pow_i hp, mod_i (show (0 : Int) < 4294967279 by decide)]
  simp only [show mix1 ns k ^ Int.toNat 5 % 4294967279 = mix2 ns k from rfl, sSeq, sIf, sRet, sRetV, sRetN, sAsg, sAsgE, sDrop, sNext, sMut, sSet, sUnp, sPar, sExc, sFor, d1, d2, dA, dC, dV, dOwn, dOit, dOix, dVS, toS, aNil, aCons, sNil, sCons, tupD, lstD, dSlc, slcS, oNo, oSo, dIf, dAnd, dOr, dNot, dAndV, dOrV, dChain, toB, notD, negD, addD, subD, ltD, leD, gtD, geD, eqD_ii, neD_ii, eqD_in, neD_in, eqD_ss, idxD, truD, lenD, absD, maxD, minD, catS, listS, tupleD, isND, isnotND, isNS, isnotNS, isNo, ok_bind, bind_exc, bind_stuck, fz_d, fz_l, fz_ll, runD, endD, startE, wipeE, frzE, kName, kNames, kApp, kExt, setAll, oOf_some, noX_k, yesT, scS, scD,
  List.map_cons, List.map_nil, List.length_cons, List.length_nil, List.replicate, List.cons_append, List.nil_append, List.getElem?_cons_zero, List.getElem?_cons_succ, List.set_cons_zero, List.set_cons_succ, List.set_nil, Nat.reduceAdd, Nat.reduceSub, Nat.reduceLeDiff, Nat.reduceLT, guard_tt, ↓reduceIte, Bool.false_eq_true, Bool.not_true, Bool.not_false, Nat.zero_add, div_i hd, mul_i hm2, mod_i (show (0 : Int) < 4294967231 by decide)]
  rfl
def numF (ns : List Int) (k most : Int) : Int := if mixF ns k % 5 = 0 then 0 else if mixF ns k % 5 = 1 then 1 else if mixF ns k % 5 = 2 then -1 else if mixF ns k % 5 = 3 then mixF ns k / 8 % 11 - 5 else mixF ns k / 8 % (2 * most + 1) - most
theorem num_bd (ns : List Int) (k most : Int) (h : 5 ≤ most) : -most ≤ numF ns k most ∧ numF ns k most ≤ most := by
  unfold numF
  have h1 := Int.emod_nonneg (mixF ns k / 8) (show 2 * most + 1 ≠ 0 by omega)
  have h2 := Int.emod_lt_of_pos (mixF ns k / 8) (show 0 < 2 * most + 1 by omega)
  split
  · omega
  · split
    · omega
    · split
      · omega
      · split <;> omega
theorem num_spec (ns : List Int) (k most : Int) (h : 5 ≤ most) : m__law_number [.d (.scr ns), .d (.int k), .d (.int most)] = .ok (.d (.int (numF ns k most))) := by
  have hd : divOk 8 := divOk_s (by decide)
  have hm : mulOk 2 most := mulOk_l (by decide)
  have hb := Int.emod_nonneg (mixF ns k) (show (5 : Int) ≠ 0 by decide)
  have hl := Int.emod_lt_of_pos (mixF ns k) (show (0 : Int) < 5 by decide)
  simp only [m__law_number, den__law_number, sSeq, sIf, sRet, sRetV, sRetN, sAsg, sAsgE, sDrop, sNext, sMut, sSet, sUnp, sPar, sExc, sFor, d1, d2, dA, dC, dV, dOwn, dOit, dOix, dVS, toS, aNil, aCons, sNil, sCons, tupD, lstD, dSlc, slcS, oNo, oSo, dIf, dAnd, dOr, dNot, dAndV, dOrV, dChain, toB, notD, negD, addD, subD, ltD, leD, gtD, geD, eqD_ii, neD_ii, eqD_in, neD_in, eqD_ss, idxD, truD, lenD, absD, maxD, minD, catS, listS, tupleD, isND, isnotND, isNS, isnotNS, isNo, ok_bind, bind_exc, bind_stuck, fz_d, fz_l, fz_ll, runD, endD, startE, wipeE, frzE, kName, kNames, kApp, kExt, setAll, oOf_some, noX_k, yesT, scS, scD,
  List.map_cons, List.map_nil, List.length_cons, List.length_nil, List.replicate, List.cons_append, List.nil_append, List.getElem?_cons_zero, List.getElem?_cons_succ, List.set_cons_zero, List.set_cons_succ, List.set_nil, Nat.reduceAdd, Nat.reduceSub, Nat.reduceLeDiff, Nat.reduceLT, guard_tt, ↓reduceIte, Bool.false_eq_true, Bool.not_true, Bool.not_false, Nat.zero_add, mix_spec, div_i hd, mul_i hm, mod_i (show (0 : Int) < 11 by decide), mod_i (show (0 : Int) < 5 by decide), mod_i (show (0 : Int) < 2 * most + 1 by omega), atI_nn hb, guard_t (show 4 + 1 ≤ cap by decide), guard_t (show (5 : Nat) ≤ cap by decide)]
  unfold numF
  generalize hq : mixF ns k % 5 = q at *
  have hc : q = 0 ∨ q = 1 ∨ q = 2 ∨ q = 3 ∨ q = 4 := by omega
  rcases hc with rfl | rfl | rfl | rfl | rfl <;> rfl
/-! ### outlines -/
abbrev Pt := Int × Int
inductive Stp where
  | to (p : Pt) | by (c p : Pt)
abbrev ptD (p : Pt) : D := .tup [.int p.1, .int p.2]
def stpD : Stp → D
  | .to p => .tup [.str "to", .int p.1, .int p.2]
  | .by c p => .tup [.str "by", .int c.1, .int c.2, .int p.1, .int p.2]
abbrev atD (p : Pt) : D := .tup [.str "at", .int p.1, .int p.2]
structure Way where
  b : Pt
  s : List Stp
def wayL (w : Way) : List D := atD w.b :: w.s.map stpD
abbrev wayD (w : Way) : D := .lst (wayL w)
def inP (m : Int) (p : Pt) : Prop := (-m ≤ p.1 ∧ p.1 ≤ m) ∧ -m ≤ p.2 ∧ p.2 ≤ m
def Stp.bd (m : Int) : Stp → Prop
  | .to p => inP m p
  | .by c p => inP m c ∧ inP m p
def Way.bd (m : Int) (w : Way) : Prop := inP m w.b ∧ ∀ s ∈ w.s, s.bd m
def Stp.fin : Stp → Pt
  | .to p => p
  | .by _ p => p
theorem way_len (w : Way) : (wayL w).length = w.s.length + 1 := by unfold wayL; rw [List.length_cons, List.length_map]
theorem tab_at : tabV t_COUNTS "at" = some 3 := rfl
theorem tab_to : tabV t_COUNTS "to" = some 3 := rfl
theorem tab_by : tabV t_COUNTS "by" = some 5 := rfl
def inN (e : Int) : Bool := if decide (-100000 ≤ e) = true then decide (e ≤ 100000) else false
theorem inN_t {e : Int} (h : -100000 ≤ e ∧ e ≤ 100000) : inN e = true := by unfold inN; rw [decide_eq_true h.1, if_pos rfl, decide_eq_true h.2]
theorem ne_str (a b : Str) : neD (.str a) (.str b) = .ok (.bl (!(a == b))) := by unfold neD; rw [guard_t (show eqOk (.str a) (.str b) from rfl), eqv_ss]
theorem look_step (i : Nat) (nm : Str) (ns : List Int) (A : List D) (hA : atI A (i : Nat) = some (.tup (.str nm :: ns.map .int))) (ht : tabV t_COUNTS nm = some ((ns.length : Nat) + 1 : Int)) (hnm : 0 < i → (nm == ("at" : Str)) = false) (hn : ns.length ≤ 1000) (hb : ns.all inN = true) :
    ((kName 1 (.int (i : Nat)) [some (.d (.lst A)), none, none, none]).bind fun ρ => den_look_way_b1 ρ) = .ok (.next [some (.d (.lst A)), none, none, none]) := by
  have hk : (if decide (0 < (i : Int)) = true then Out.ok (nm == ("at" : Str)) else Out.ok false) = Out.ok false := by
    by_cases h : 0 < i
    · rw [hnm h]; split <;> rfl
    · rw [decide_eq_false (by omega)]; rfl
  have hall : allD [.lst (ns.map fun e => .bl (inN e))] = .ok (.bl true) := by rw [all_map, hb]
  have hq : (((ns.length : Nat) : Int) + 1 == ((ns.length + 1 : Nat) : Int)) = true := by simp
  have c1 := lc_map (k := kName 3) (el := dChain leD leD (d1 negD (dC (.int 100000))) (dV 3) (dC (.int 100000))) (ρ := [some (.d (.lst A)), some (.d (.int (i : Nat))), some (.d (.tup (.str nm :: ns.map .int))), none]) D.int (fun e => .bl (inN e)) ns (fun e _ => by
    simp only [sSeq, sIf, sRet, sRetV, sRetN, sAsg, sAsgE, sDrop, sNext, sMut, sSet, sUnp, sPar, sExc, sFor, d1, d2, dA, dC, dV, dOwn, dOit, dOix, dVS, toS, aNil, aCons, sNil, sCons, tupD, lstD, dSlc, slcS, oNo, oSo, dIf, dAnd, dOr, dNot, dAndV, dOrV, dChain, toB, notD, negD, addD, subD, ltD, leD, gtD, geD, eqD_ii, neD_ii, eqD_in, neD_in, eqD_ss, idxD, truD, lenD, absD, maxD, minD, catS, listS, tupleD, isND, isnotND, isNS, isnotNS, isNo, ok_bind, bind_exc, bind_stuck, fz_d, fz_l, fz_ll, runD, endD, startE, wipeE, frzE, kName, kNames, kApp, kExt, setAll, oOf_some, noX_k, yesT, scS, scD,
  List.map_cons, List.map_nil, List.length_cons, List.length_nil, List.replicate, List.cons_append, List.nil_append, List.getElem?_cons_zero, List.getElem?_cons_succ, List.set_cons_zero, List.set_cons_succ, List.set_nil, Nat.reduceAdd, Nat.reduceSub, Nat.reduceLeDiff, Nat.reduceLT, guard_tt, ↓reduceIte, Bool.false_eq_true, Bool.not_true, Bool.not_false, Nat.zero_add, inN]
    cases decide (-100000 ≤ e) <;> simp only [sSeq, sIf, sRet, sRetV, sRetN, sAsg, sAsgE, sDrop, sNext, sMut, sSet, sUnp, sPar, sExc, sFor, d1, d2, dA, dC, dV, dOwn, dOit, dOix, dVS, toS, aNil, aCons, sNil, sCons, tupD, lstD, dSlc, slcS, oNo, oSo, dIf, dAnd, dOr, dNot, dAndV, dOrV, dChain, toB, notD, negD, addD, subD, ltD, leD, gtD, geD, eqD_ii, neD_ii, eqD_in, neD_in, eqD_ss, idxD, truD, lenD, absD, maxD, minD, catS, listS, tupleD, isND, isnotND, isNS, isnotNS, isNo, ok_bind, bind_exc, bind_stuck, fz_d, fz_l, fz_ll, runD, endD, startE, wipeE, frzE, kName, kNames, kApp, kExt, setAll, oOf_some, noX_k, yesT, scS, scD,
  List.map_cons, List.map_nil, List.length_cons, List.length_nil, List.replicate, List.cons_append, List.nil_append, List.getElem?_cons_zero, List.getElem?_cons_succ, List.set_cons_zero, List.set_cons_succ, List.set_nil, Nat.reduceAdd, Nat.reduceSub, Nat.reduceLeDiff, Nat.reduceLT, guard_tt, ↓reduceIte, Bool.false_eq_true, Bool.not_true, Bool.not_false, Nat.zero_add])
  have hl : (ns.map D.int).length ≤ cap := by rw [List.length_map]; unfold cap; omega
  simp only [den_look_way_b1, sSeq, sIf, sRet, sRetV, sRetN, sAsg, sAsgE, sDrop, sNext, sMut, sSet, sUnp, sPar, sExc, sFor, d1, d2, dA, dC, dV, dOwn, dOit, dOix, dVS, toS, aNil, aCons, sNil, sCons, tupD, lstD, dSlc, slcS, oNo, oSo, dIf, dAnd, dOr, dNot, dAndV, dOrV, dChain, toB, notD, negD, addD, subD, ltD, leD, gtD, geD, eqD_ii, neD_ii, eqD_in, neD_in, eqD_ss, idxD, truD, lenD, absD, maxD, minD, catS, listS, tupleD, isND, isnotND, isNS, isnotNS, isNo, ok_bind, bind_exc, bind_stuck, fz_d, fz_l, fz_ll, runD, endD, startE, wipeE, frzE, kName, kNames, kApp, kExt, setAll, oOf_some, noX_k, yesT, scS, scD,
  List.map_cons, List.map_nil, List.length_cons, List.length_nil, List.replicate, List.cons_append, List.nil_append, List.getElem?_cons_zero, List.getElem?_cons_succ, List.set_cons_zero, List.set_cons_succ, List.set_nil, Nat.reduceAdd, Nat.reduceSub, Nat.reduceLeDiff, Nat.reduceLT, guard_tt, ↓reduceIte, Bool.false_eq_true, Bool.not_true, Bool.not_false, Nat.zero_add, hA, at0, ggetD, ht, List.length_map, hq, hk, dLc, cut_tail, itT, guard_t (show ns.length ≤ cap by unfold cap; omega), c1, hall]
theorem look_way_aux (A : List D) (n : Nat) (b : Pt) (hA : A.length = n) (hn : 1 ≤ n ∧ n ≤ 200) (e0 : atI A 0 = some (atD b)) (lp : loopD (kName 1) den_look_way_b1 (rngL 0 n) [some (.d (.lst A)), none, none, none] = .ok (.next [some (.d (.lst A)), none, none, none])) : m_look_way [.d (.lst A)] = .ok (.d .non) := by
  have h1 : decide ((1 : Int) ≤ (n : Nat)) = true := decide_eq_true (by omega)
  have h2 : decide ((n : Int) ≤ 200) = true := decide_eq_true (by omega)
  have hr : -1000000000 ≤ (n : Int) ∧ (n : Int) ≤ 1000000000 := by omega
  simp only [m_look_way, den_look_way, sSeq, sIf, sRet, sRetV, sRetN, sAsg, sAsgE, sDrop, sNext, sMut, sSet, sUnp, sPar, sExc, sFor, d1, d2, dA, dC, dV, dOwn, dOit, dOix, dVS, toS, aNil, aCons, sNil, sCons, tupD, lstD, dSlc, slcS, oNo, oSo, dIf, dAnd, dOr, dNot, dAndV, dOrV, dChain, toB, notD, negD, addD, subD, ltD, leD, gtD, geD, eqD_ii, neD_ii, eqD_in, neD_in, eqD_ss, idxD, truD, lenD, absD, maxD, minD, catS, listS, tupleD, isND, isnotND, isNS, isnotNS, isNo, ok_bind, bind_exc, bind_stuck, fz_d, fz_l, fz_ll, runD, endD, startE, wipeE, frzE, kName, kNames, kApp, kExt, setAll, oOf_some, noX_k, yesT, scS, scD,
  List.map_cons, List.map_nil, List.length_cons, List.length_nil, List.replicate, List.cons_append, List.nil_append, List.getElem?_cons_zero, List.getElem?_cons_succ, List.set_cons_zero, List.set_cons_succ, List.set_nil, Nat.reduceAdd, Nat.reduceSub, Nat.reduceLeDiff, Nat.reduceLT, guard_tt, ↓reduceIte, Bool.false_eq_true, Bool.not_true, Bool.not_false, Nat.zero_add, hA, h1, h2, e0, at0, ne_str, BEq.rfl, rng1_i hr, Int.toNat_natCast, lp]
theorem look_way_spec (w : Way) (hb : w.bd 100000) (hl : w.s.length ≤ 199) : m_look_way [.d (wayD w)] = .ok (.d .non) := by
  have lp := loop_at (k := kName 1) (f := den_look_way_b1) (fun _ => [some (.d (wayD w)), none, none, none]) (rngL 0 (w.s.length + 1)) 0 (fun i d e => by
    obtain ⟨hi, rfl⟩ := rngL_get0 e
    have hA0 : atI (wayL w) (i : Nat) = (wayL w)[i]? := by rw [atI_nn (by omega), Int.toNat_natCast]
    cases i with
    | zero => 
      have h1 := hb.1
      exact look_step 0 "at" [w.b.1, w.b.2] (wayL w) (by rw [hA0]; rfl) tab_at (fun h => absurd h (by decide)) (by simp only [List.length_cons, List.length_nil]; omega) (by simp only [List.all_cons, List.all_nil, inN_t h1.1, inN_t h1.2]; rfl)
    | succ j =>
      have hj : j < w.s.length := by omega
      have hx : (wayL w)[j + 1]? = some (stpD w.s[j]) := by
        unfold wayL
        rw [List.getElem?_cons_succ, List.getElem?_map, List.getElem?_eq_getElem hj]; rfl
      have hs := hb.2 w.s[j] (List.getElem_mem hj)
      cases q : w.s[j] with
      | to p =>
        rw [q] at hx hs
        exact look_step (j + 1) "to" [p.1, p.2] (wayL w) (by rw [hA0, hx]; rfl) tab_to (fun _ => rfl) (by simp only [List.length_cons, List.length_nil]; omega) (by simp only [List.all_cons, List.all_nil, inN_t hs.1, inN_t hs.2]; rfl)
      | «by» c p =>
        rw [q] at hx hs
        exact look_step (j + 1) "by" [c.1, c.2, p.1, p.2] (wayL w) (by rw [hA0, hx]; rfl) tab_by (fun _ => rfl) (by simp only [List.length_cons, List.length_nil]; omega) (by simp only [List.all_cons, List.all_nil, inN_t hs.1.1, inN_t hs.1.2, inN_t hs.2.1, inN_t hs.2.2]; rfl))
  exact look_way_aux (wayL w) (w.s.length + 1) w.b (way_len w) (by omega) (at0 _ _) lp
theorem look_outline_spec (O : List Way) (hb : ∀ w ∈ O, w.bd 100000 ∧ w.s.length ≤ 199) (hl : O.length ≤ 40) : m_look_outline [.d (.lst (O.map wayD))] = .ok (.d .non) := by
  have lp := loop_map (k := kName 1) (f := den_look_outline_b1) (fun _ : Unit => [some (.d (.lst (O.map wayD))), none]) wayD (fun a _ => a) (fun _ => True) O (fun a x hx _ => ⟨trivial, by
    obtain ⟨h1, h2⟩ := hb x hx
    simp only [den_look_outline_b1, sSeq, sIf, sRet, sRetV, sRetN, sAsg, sAsgE, sDrop, sNext, sMut, sSet, sUnp, sPar, sExc, sFor, d1, d2, dA, dC, dV, dOwn, dOit, dOix, dVS, toS, aNil, aCons, sNil, sCons, tupD, lstD, dSlc, slcS, oNo, oSo, dIf, dAnd, dOr, dNot, dAndV, dOrV, dChain, toB, notD, negD, addD, subD, ltD, leD, gtD, geD, eqD_ii, neD_ii, eqD_in, neD_in, eqD_ss, idxD, truD, lenD, absD, maxD, minD, catS, listS, tupleD, isND, isnotND, isNS, isnotNS, isNo, ok_bind, bind_exc, bind_stuck, fz_d, fz_l, fz_ll, runD, endD, startE, wipeE, frzE, kName, kNames, kApp, kExt, setAll, oOf_some, noX_k, yesT, scS, scD,
  List.map_cons, List.map_nil, List.length_cons, List.length_nil, List.replicate, List.cons_append, List.nil_append, List.getElem?_cons_zero, List.getElem?_cons_succ, List.set_cons_zero, List.set_cons_succ, List.set_nil, Nat.reduceAdd, Nat.reduceSub, Nat.reduceLeDiff, Nat.reduceLT, guard_tt, ↓reduceIte, Bool.false_eq_true, Bool.not_true, Bool.not_false, Nat.zero_add, look_way_spec x h1 h2]⟩) () trivial
  have h1 : decide ((40 : Int) < ((O.map wayD).length : Nat)) = false := decide_eq_false (by rw [List.length_map]; omega)
  simp only [m_look_outline, den_look_outline, sSeq, sIf, sRet, sRetV, sRetN, sAsg, sAsgE, sDrop, sNext, sMut, sSet, sUnp, sPar, sExc, sFor, d1, d2, dA, dC, dV, dOwn, dOit, dOix, dVS, toS, aNil, aCons, sNil, sCons, tupD, lstD, dSlc, slcS, oNo, oSo, dIf, dAnd, dOr, dNot, dAndV, dOrV, dChain, toB, notD, negD, addD, subD, ltD, leD, gtD, geD, eqD_ii, neD_ii, eqD_in, neD_in, eqD_ss, idxD, truD, lenD, absD, maxD, minD, catS, listS, tupleD, isND, isnotND, isNS, isnotNS, isNo, ok_bind, bind_exc, bind_stuck, fz_d, fz_l, fz_ll, runD, endD, startE, wipeE, frzE, kName, kNames, kApp, kExt, setAll, oOf_some, noX_k, yesT, scS, scD,
  List.map_cons, List.map_nil, List.length_cons, List.length_nil, List.replicate, List.cons_append, List.nil_append, List.getElem?_cons_zero, List.getElem?_cons_succ, List.set_cons_zero, List.set_cons_succ, List.set_nil, Nat.reduceAdd, Nat.reduceSub, Nat.reduceLeDiff, Nat.reduceLT, guard_tt, ↓reduceIte, Bool.false_eq_true, Bool.not_true, Bool.not_false, Nat.zero_add, h1, itL, lp.1]
/-! ### pieces -/
inductive Pc where
  | ln (a b : Pt) | bd (a t b : Pt)
def pcD : Pc → D
  | .ln a b => .tup [ptD a, ptD b]
  | .bd a t b => .tup [ptD a, ptD t, ptD b]
def goPc (h : Pt) : List Stp → List Pc
  | [] => []
  | .to p :: r => .ln h p :: goPc p r
  | .by c p :: r => .bd h c p :: goPc p r
def endPt (h : Pt) : List Stp → Pt
  | [] => h
  | s :: r => endPt s.fin r
theorem endPt_snoc (x : Stp) : ∀ (l : List Stp) (h : Pt), endPt h (l ++ [x]) = x.fin
  | [], _ => rfl
  | _ :: l, _ => endPt_snoc x l _
def pc1 (h : Pt) : Stp → Pc
  | .to p => .ln h p
  | .by c p => .bd h c p
theorem goPc_snoc (x : Stp) : ∀ (l : List Stp) (h : Pt), goPc h (l ++ [x]) = goPc h l ++ [pc1 (endPt h l) x]
  | [], _ => by cases x <;> rfl
  | .to p :: l, _ => by simp only [List.cons_append, goPc, endPt, Stp.fin, goPc_snoc x l]
  | .by c p :: l, _ => by simp only [List.cons_append, goPc, endPt, Stp.fin, goPc_snoc x l]
theorem goPc_len : ∀ (l : List Stp) (h : Pt), (goPc h l).length = l.length
  | [], _ => rfl
  | .to p :: l, _ => by simp only [goPc, List.length_cons, goPc_len l]
  | .by c p :: l, _ => by simp only [goPc, List.length_cons, goPc_len l]
def pcs (w : Way) : List Pc := goPc w.b w.s ++ (if endPt w.b w.s = w.b then [] else [.ln (endPt w.b w.s) w.b])
theorem pcs_len (w : Way) : (pcs w).length ≤ w.s.length + 1 := by
  unfold pcs
  rw [List.length_append, goPc_len]
  split <;> simp
theorem eqv_pt (a b : Pt) : eqv (ptD a) (ptD b) = decide (a = b) := by
  rw [eqv_tt, eqvAll_cc, eqvAll_cc, eqvAll_nil, eqv_ii, eqv_ii]
  obtain ⟨a1, a2⟩ := a
  obtain ⟨b1, b2⟩ := b
  by_cases h1 : a1 = b1 <;> by_cases h2 : a2 = b2 <;> simp [h1, h2]
theorem ne_pt (a b : Pt) : neD (ptD a) (ptD b) = .ok (.bl (!decide (a = b))) := by
  unfold neD; rw [guard_t (show eqOk (ptD a) (ptD b) from rfl), eqv_pt]
theorem take_snoc {α : Type} {l : List α} {i : Nat} {x : α} (h : l[i]? = some x) : l.take (i + 1) = l.take i ++ [x] := by rw [List.take_add_one, h]; rfl
def opcs : List Way → List Pc
  | [] => []
  | w :: O => pcs w ++ opcs O
theorem opcs_app : ∀ a b, opcs (a ++ b) = opcs a ++ opcs b
  | [], _ => rfl
  | w :: a, b => by simp only [List.cons_append, opcs, opcs_app a b, List.append_assoc]
theorem opcs_len : ∀ (O : List Way) (n : Nat), (∀ w ∈ O, w.s.length ≤ n) → (opcs O).length ≤ O.length * (n + 1)
  | [], _, _ => by simp [opcs]
  | w :: O, n, h => by
    have h1 := h w List.mem_cons_self
    have h2 := opcs_len O n fun x hx => h x (List.mem_cons_of_mem _ hx)
    have h3 := pcs_len w
    simp only [opcs, List.length_append, List.length_cons, Nat.add_mul, Nat.one_mul]
    omega
/-! ### the law's outlines -/
def stpF (ns : List Int) (k most : Int) : Stp := if mixF ns k % 5 < 2 then .to (numF ns (k + 1) most, numF ns (k + 2) most) else .by (numF ns (k + 1) most, numF ns (k + 2) most) (numF ns (k + 3) most, numF ns (k + 4) most)
theorem stpF_bd (ns : List Int) (k most : Int) (h : 5 ≤ most) : (stpF ns k most).bd most := by
  unfold stpF
  split
  · exact ⟨num_bd ns _ most h, num_bd ns _ most h⟩
  · exact ⟨⟨num_bd ns _ most h, num_bd ns _ most h⟩, num_bd ns _ most h, num_bd ns _ most h⟩
theorem law_step_spec (ns : List Int) (k most : Int) (h : 5 ≤ most) : m__law_step [.d (.scr ns), .d (.int k), .d (.int most)] = .ok (.d (stpD (stpF ns k most))) := by
  have c1 := lc_map (k := kName 4) (el := den__law_step_e1) (ρ := [some (.d (.scr ns)), some (.d (.int k)), some (.d (.int most)), some (.d (.int (mixF ns k))), none, none]) (fun i : Nat => D.int i) (fun i : Nat => .int (numF ns (k + 1 + i) most)) (List.range 4) (fun i _ => by
    simp only [den__law_step_e1, sSeq, sIf, sRet, sRetV, sRetN, sAsg, sAsgE, sDrop, sNext, sMut, sSet, sUnp, sPar, sExc, sFor, d1, d2, dA, dC, dV, dOwn, dOit, dOix, dVS, toS, aNil, aCons, sNil, sCons, tupD, lstD, dSlc, slcS, oNo, oSo, dIf, dAnd, dOr, dNot, dAndV, dOrV, dChain, toB, notD, negD, addD, subD, ltD, leD, gtD, geD, eqD_ii, neD_ii, eqD_in, neD_in, eqD_ss, idxD, truD, lenD, absD, maxD, minD, catS, listS, tupleD, isND, isnotND, isNS, isnotNS, isNo, ok_bind, bind_exc, bind_stuck, fz_d, fz_l, fz_ll, runD, endD, startE, wipeE, frzE, kName, kNames, kApp, kExt, setAll, oOf_some, noX_k, yesT, scS, scD,
  List.map_cons, List.map_nil, List.length_cons, List.length_nil, List.replicate, List.cons_append, List.nil_append, List.getElem?_cons_zero, List.getElem?_cons_succ, List.set_cons_zero, List.set_cons_succ, List.set_nil, Nat.reduceAdd, Nat.reduceSub, Nat.reduceLeDiff, Nat.reduceLT, guard_tt, ↓reduceIte, Bool.false_eq_true, Bool.not_true, Bool.not_false, Nat.zero_add, num_spec ns _ most h])
  have hr : -1000000000 ≤ (4 : Int) ∧ (4 : Int) ≤ 1000000000 := by decide
  have e4 : Int.toNat 4 = 4 := rfl
  have hc : ((List.range 4).map (fun i : Nat => D.int i)).length ≤ cap := by decide
  have e5 : (List.range 4).map (fun i : Nat => D.int (numF ns (k + 1 + i) most)) = [.int (numF ns (k + 1) most), .int (numF ns (k + 2) most), .int (numF ns (k + 3) most), .int (numF ns (k + 4) most)] := by
    rw [show List.range 4 = [0, 1, 2, 3] from rfl]
    simp only [List.map_cons, List.map_nil]
    rw [show k + 1 + ((0 : Nat) : Int) = k + 1 by omega, show k + 1 + ((1 : Nat) : Int) = k + 2 by omega, show k + 1 + ((2 : Nat) : Int) = k + 3 by omega, show k + 1 + ((3 : Nat) : Int) = k + 4 by omega]
  rw [e5] at c1
  unfold stpF
  by_cases hm : mixF ns k % 5 < 2
  · simp only [m__law_step, den__law_step, den__law_step_t1, den__law_step_s1, sSeq, sIf, sRet, sRetV, sRetN, sAsg, sAsgE, sDrop, sNext, sMut, sSet, sUnp, sPar, sExc, sFor, d1, d2, dA, dC, dV, dOwn, dOit, dOix, dVS, toS, aNil, aCons, sNil, sCons, tupD, lstD, dSlc, slcS, oNo, oSo, dIf, dAnd, dOr, dNot, dAndV, dOrV, dChain, toB, notD, negD, addD, subD, ltD, leD, gtD, geD, eqD_ii, neD_ii, eqD_in, neD_in, eqD_ss, idxD, truD, lenD, absD, maxD, minD, catS, listS, tupleD, isND, isnotND, isNS, isnotNS, isNo, ok_bind, bind_exc, bind_stuck, fz_d, fz_l, fz_ll, runD, endD, startE, wipeE, frzE, kName, kNames, kApp, kExt, setAll, oOf_some, noX_k, yesT, scS, scD,
  List.map_cons, List.map_nil, List.length_cons, List.length_nil, List.replicate, List.cons_append, List.nil_append, List.getElem?_cons_zero, List.getElem?_cons_succ, List.set_cons_zero, List.set_cons_succ, List.set_nil, Nat.reduceAdd, Nat.reduceSub, Nat.reduceLeDiff, Nat.reduceLT, guard_tt, ↓reduceIte, Bool.false_eq_true, Bool.not_true, Bool.not_false, Nat.zero_add, mix_spec, mod_i (show (0 : Int) < 5 by decide), hm, decide_true, num_spec ns _ most h, guard_t (show (3 : Nat) ≤ cap by decide), stpD, if_true]
  · simp only [m__law_step, den__law_step, den__law_step_t1, den__law_step_s1, den__law_step_t2, den__law_step_s2, sSeq, sIf, sRet, sRetV, sRetN, sAsg, sAsgE, sDrop, sNext, sMut, sSet, sUnp, sPar, sExc, sFor, d1, d2, dA, dC, dV, dOwn, dOit, dOix, dVS, toS, aNil, aCons, sNil, sCons, tupD, lstD, dSlc, slcS, oNo, oSo, dIf, dAnd, dOr, dNot, dAndV, dOrV, dChain, toB, notD, negD, addD, subD, ltD, leD, gtD, geD, eqD_ii, neD_ii, eqD_in, neD_in, eqD_ss, idxD, truD, lenD, absD, maxD, minD, catS, listS, tupleD, isND, isnotND, isNS, isnotNS, isNo, ok_bind, bind_exc, bind_stuck, fz_d, fz_l, fz_ll, runD, endD, startE, wipeE, frzE, kName, kNames, kApp, kExt, setAll, oOf_some, noX_k, yesT, scS, scD,
  List.map_cons, List.map_nil, List.length_cons, List.length_nil, List.replicate, List.cons_append, List.nil_append, List.getElem?_cons_zero, List.getElem?_cons_succ, List.set_cons_zero, List.set_cons_succ, List.set_nil, Nat.reduceAdd, Nat.reduceSub, Nat.reduceLeDiff, Nat.reduceLT, guard_tt, ↓reduceIte, Bool.false_eq_true, Bool.not_true, Bool.not_false, Nat.zero_add, mix_spec, mod_i (show (0 : Int) < 5 by decide), hm, decide_false, dLc, rng1_i hr, e4, rngL_map, guard_t hc, c1, guard_t (show (1 : Nat) ≤ cap by decide), guard_t (show 1 + 4 ≤ cap by decide), guard_t (show (5 : Nat) ≤ cap by decide), stpD, if_false]
def stps (ns : List Int) (k most : Int) (n : Nat) : List Stp := (List.range n).map fun j => stpF ns (k + 3 + 3 * (j : Nat)) most
theorem law_way_spec (ns : List Int) (k most : Int) (h : 5 ≤ most) : ∃ w : Way, w.bd most ∧ w.s.length ≤ 4 ∧ m__law_way [.d (.scr ns), .d (.int k), .d (.int most)] = .ok (.l (wayL w)) := by
  have h5 : 0 ≤ mixF ns (k + 2) % 5 ∧ mixF ns (k + 2) % 5 < 5 := by omega
  refine ⟨⟨(numF ns k most, numF ns (k + 1) most), stps ns k most (mixF ns (k + 2) % 5).toNat⟩, ⟨⟨num_bd ns _ most h, num_bd ns _ most h⟩, fun s hs => ?_⟩, by unfold stps; rw [List.length_map, List.length_range]; omega, ?_⟩
  · obtain ⟨j, _, rfl⟩ := List.mem_map.mp hs
    exact stpF_bd ns _ most h
  have lp := loop_at (k := kName 4) (f := den__law_way_b1) (fun i => [some (.d (.scr ns)), some (.d (.int k)), some (.d (.int most)), some (.l (atD (numF ns k most, numF ns (k + 1) most) :: (stps ns k most i).map stpD)), none]) (rngL 0 (mixF ns (k + 2) % 5).toNat) 0 (fun i d e => by
    obtain ⟨hi, rfl⟩ := rngL_get0 e
    have hm : mulOk 3 (i : Nat) := mulOk_l (by decide)
    have hlen : (stps ns k most i).length + 1 < cap := by unfold stps; rw [List.length_map, List.length_range]; unfold cap; omega
    have hs : stps ns k most (i + 1) = stps ns k most i ++ [stpF ns (k + 3 + 3 * (i : Nat)) most] := by unfold stps; rw [List.range_succ, List.map_append]; rfl
    rw [Nat.zero_add]
    simp only [den__law_way_b1, sSeq, sIf, sRet, sRetV, sRetN, sAsg, sAsgE, sDrop, sNext, sMut, sSet, sUnp, sPar, sExc, sFor, d1, d2, dA, dC, dV, dOwn, dOit, dOix, dVS, toS, aNil, aCons, sNil, sCons, tupD, lstD, dSlc, slcS, oNo, oSo, dIf, dAnd, dOr, dNot, dAndV, dOrV, dChain, toB, notD, negD, addD, subD, ltD, leD, gtD, geD, eqD_ii, neD_ii, eqD_in, neD_in, eqD_ss, idxD, truD, lenD, absD, maxD, minD, catS, listS, tupleD, isND, isnotND, isNS, isnotNS, isNo, ok_bind, bind_exc, bind_stuck, fz_d, fz_l, fz_ll, runD, endD, startE, wipeE, frzE, kName, kNames, kApp, kExt, setAll, oOf_some, noX_k, yesT, scS, scD,
  List.map_cons, List.map_nil, List.length_cons, List.length_nil, List.replicate, List.cons_append, List.nil_append, List.getElem?_cons_zero, List.getElem?_cons_succ, List.set_cons_zero, List.set_cons_succ, List.set_nil, Nat.reduceAdd, Nat.reduceSub, Nat.reduceLeDiff, Nat.reduceLT, guard_tt, ↓reduceIte, Bool.false_eq_true, Bool.not_true, Bool.not_false, Nat.zero_add, mul_i hm, law_step_spec ns _ most h, List.length_map, guard_t hlen, hs, List.map_append])
  rw [rngL_len, Nat.zero_add] at lp
  have hr : -1000000000 ≤ mixF ns (k + 2) % 5 ∧ mixF ns (k + 2) % 5 ≤ 1000000000 := by omega
  simp only [show stps ns k most 0 = [] from rfl, List.map_nil, atD] at lp
  simp only [m__law_way, den__law_way, sSeq, sIf, sRet, sRetV, sRetN, sAsg, sAsgE, sDrop, sNext, sMut, sSet, sUnp, sPar, sExc, sFor, d1, d2, dA, dC, dV, dOwn, dOit, dOix, dVS, toS, aNil, aCons, sNil, sCons, tupD, lstD, dSlc, slcS, oNo, oSo, dIf, dAnd, dOr, dNot, dAndV, dOrV, dChain, toB, notD, negD, addD, subD, ltD, leD, gtD, geD, eqD_ii, neD_ii, eqD_in, neD_in, eqD_ss, idxD, truD, lenD, absD, maxD, minD, catS, listS, tupleD, isND, isnotND, isNS, isnotNS, isNo, ok_bind, bind_exc, bind_stuck, fz_d, fz_l, fz_ll, runD, endD, startE, wipeE, frzE, kName, kNames, kApp, kExt, setAll, oOf_some, noX_k, yesT, scS, scD,
  List.map_cons, List.map_nil, List.length_cons, List.length_nil, List.replicate, List.cons_append, List.nil_append, List.getElem?_cons_zero, List.getElem?_cons_succ, List.set_cons_zero, List.set_cons_succ, List.set_nil, Nat.reduceAdd, Nat.reduceSub, Nat.reduceLeDiff, Nat.reduceLT, guard_tt, ↓reduceIte, Bool.false_eq_true, Bool.not_true, Bool.not_false, Nat.zero_add, num_spec ns _ most h, guard_t (show (3 : Nat) ≤ cap by decide), guard_t (show (1 : Nat) ≤ cap by decide), mix_spec, mod_i (show (0 : Int) < 5 by decide), rng1_i hr, lp, wayL, atD]
theorem pick_out (q : Int) (h : 0 ≤ q ∧ q < 6) : ∃ n : Int, (0 ≤ n ∧ n ≤ 3) ∧ atI [D.int 1, D.int 1, D.int 2, D.int 3, D.int 0, D.int 2] q = some (.int n) := by
  have : q = 0 ∨ q = 1 ∨ q = 2 ∨ q = 3 ∨ q = 4 ∨ q = 5 := by omega
  rcases this with rfl | rfl | rfl | rfl | rfl | rfl
  · exact ⟨1, by decide, rfl⟩
  · exact ⟨1, by decide, rfl⟩
  · exact ⟨2, by decide, rfl⟩
  · exact ⟨3, by decide, rfl⟩
  · exact ⟨0, by decide, rfl⟩
  · exact ⟨2, by decide, rfl⟩
theorem law_outline_spec (ns : List Int) (k most : Int) (h : 5 ≤ most) : ∃ O : List Way, O.length ≤ 3 ∧ (∀ w ∈ O, w.bd most ∧ w.s.length ≤ 4) ∧ m__law_outline [.d (.scr ns), .d (.int k), .d (.int most)] = .ok (.l (O.map wayD)) := by
  obtain ⟨n, hn, hn2⟩ := pick_out (mixF ns (k + 70) % 6) (by omega)
  have hw : ∀ i : Nat, ∃ w : Way, w.bd most ∧ w.s.length ≤ 4 ∧ m__law_way [.d (.scr ns), .d (.int (k + 20 * (i : Nat))), .d (.int most)] = .ok (.l (wayL w)) := fun i => law_way_spec ns _ most h
  let W := fun i => (hw i).choose
  have hW : ∀ i, (W i).bd most ∧ (W i).s.length ≤ 4 ∧ m__law_way [.d (.scr ns), .d (.int (k + 20 * (i : Nat))), .d (.int most)] = .ok (.l (wayL (W i))) := fun i => (hw i).choose_spec
  refine ⟨(List.range n.toNat).map W, by rw [List.length_map, List.length_range]; omega, fun w hm => ?_, ?_⟩
  · obtain ⟨j, _, rfl⟩ := List.mem_map.mp hm
    exact ⟨(hW j).1, (hW j).2.1⟩
  clear_value W
  have hr : -1000000000 ≤ n ∧ n ≤ 1000000000 := by omega
  have c1 := lc_map (k := kName 3) (el := den__law_outline_e1) (ρ := [some (.d (.scr ns)), some (.d (.int k)), some (.d (.int most)), none]) (fun i : Nat => D.int i) (fun i : Nat => wayD (W i)) (List.range n.toNat) (fun i _ => by
    have hm : mulOk 20 (i : Nat) := mulOk_l (by decide)
    simp only [den__law_outline_e1, sSeq, sIf, sRet, sRetV, sRetN, sAsg, sAsgE, sDrop, sNext, sMut, sSet, sUnp, sPar, sExc, sFor, d1, d2, dA, dC, dV, dOwn, dOit, dOix, dVS, toS, aNil, aCons, sNil, sCons, tupD, lstD, dSlc, slcS, oNo, oSo, dIf, dAnd, dOr, dNot, dAndV, dOrV, dChain, toB, notD, negD, addD, subD, ltD, leD, gtD, geD, eqD_ii, neD_ii, eqD_in, neD_in, eqD_ss, idxD, truD, lenD, absD, maxD, minD, catS, listS, tupleD, isND, isnotND, isNS, isnotNS, isNo, ok_bind, bind_exc, bind_stuck, fz_d, fz_l, fz_ll, runD, endD, startE, wipeE, frzE, kName, kNames, kApp, kExt, setAll, oOf_some, noX_k, yesT, scS, scD,
  List.map_cons, List.map_nil, List.length_cons, List.length_nil, List.replicate, List.cons_append, List.nil_append, List.getElem?_cons_zero, List.getElem?_cons_succ, List.set_cons_zero, List.set_cons_succ, List.set_nil, Nat.reduceAdd, Nat.reduceSub, Nat.reduceLeDiff, Nat.reduceLT, guard_tt, ↓reduceIte, Bool.false_eq_true, Bool.not_true, Bool.not_false, Nat.zero_add, mul_i hm, (hW i).2.2])
  have hc : ((List.range n.toNat).map (fun i : Nat => D.int i)).length ≤ cap := by rw [List.length_map, List.length_range]; unfold cap; omega
  simp only [m__law_outline, den__law_outline, sSeq, sIf, sRet, sRetV, sRetN, sAsg, sAsgE, sDrop, sNext, sMut, sSet, sUnp, sPar, sExc, sFor, d1, d2, dA, dC, dV, dOwn, dOit, dOix, dVS, toS, aNil, aCons, sNil, sCons, tupD, lstD, dSlc, slcS, oNo, oSo, dIf, dAnd, dOr, dNot, dAndV, dOrV, dChain, toB, notD, negD, addD, subD, ltD, leD, gtD, geD, eqD_ii, neD_ii, eqD_in, neD_in, eqD_ss, idxD, truD, lenD, absD, maxD, minD, catS, listS, tupleD, isND, isnotND, isNS, isnotNS, isNo, ok_bind, bind_exc, bind_stuck, fz_d, fz_l, fz_ll, runD, endD, startE, wipeE, frzE, kName, kNames, kApp, kExt, setAll, oOf_some, noX_k, yesT, scS, scD,
  List.map_cons, List.map_nil, List.length_cons, List.length_nil, List.replicate, List.cons_append, List.nil_append, List.getElem?_cons_zero, List.getElem?_cons_succ, List.set_cons_zero, List.set_cons_succ, List.set_nil, Nat.reduceAdd, Nat.reduceSub, Nat.reduceLeDiff, Nat.reduceLT, guard_tt, ↓reduceIte, Bool.false_eq_true, Bool.not_true, Bool.not_false, Nat.zero_add, mix_spec, mod_i (show (0 : Int) < 6 by decide), guard_t (show (6 : Nat) ≤ cap by decide), hn2, dLc, rng1_i hr, rngL_map, guard_t hc, c1, List.map_map]
  rfl
/-! ### the law's pieces -/
end G

set_option Elab.async false
set_option linter.all false
set_option maxRecDepth 100000
set_option maxHeartbeats 8000000
namespace G
open PySem L2
/-! ### the reader's object -/
def refO {α : Type} (_ : Nat) : Out α := .stuck
def signs (T : List Nat) (a : Nat) : List (Str × D) := [("text", .str (mkS T)), ("at", .int a)]
theorem sg_text (T a) : List.lookup ("text" : Str) (signs T a) = some (D.str (mkS T)) := (rfl)
theorem sg_at (T) (a : Nat) : List.lookup ("at" : Str) (signs T a) = some (D.int a) := (rfl)
theorem sg_sees (T a) : List.lookup ("sees" : Str) (signs T a) = none := (rfl)
theorem sg_number (T a) : List.lookup ("number" : Str) (signs T a) = none := (rfl)
theorem sg_refuse (T a) : List.lookup ("refuse" : Str) (signs T a) = none := (rfl)
theorem sg_put (T) (a : Nat) : putFD "at" (D.int ((a : Int) + 1)) (signs T a) = signs T (a + 1) := (rfl)
theorem sg_len (T a) : (signs T a).length < 1000 := (by decide : 2 < 1000)
def nx (T : List Nat) (a : Nat) : List Nat := (T.drop a).take 1
theorem cast1 (a : Nat) : ((a : Int) + 1) = ((a + 1 : Nat) : Int) := (rfl)
theorem slc_nx (T : List Nat) (a : Nat) (h : T.length ≤ 1000000) : slcS (.str (mkS T)) (some (a : Int)) (some ((a : Int) + 1)) = .ok (.d (.str (mkS (nx T a)))) := by
  rw [cast1, slc_str T a (a + 1) h, Nat.add_sub_cancel_left]; rfl
theorem e_kfldo {c f : Str} {fs : List (Str × D)} : kFld c f (some (some (.o c fs))) = oOf (fs.lookup f) := by unfold kFld; exact guard_t rfl
theorem sees_spec (T : List Nat) (a : Nat) (h : T.length ≤ 1000000) : m_Signs_sees [.o "Signs" (signs T a)] = .ok (.d (.str (mkS (nx T a)))) := by
  simp (maxSteps := 2000000) (disch := omega) only [e_lend, e_lend1, e_lend2, e_lend3, e_lend4, e_lend5, e_lend6, e_oixx, e_oixx1, e_oixx2, e_oixx3, e_oixx4, e_sets, e_sets0, e_sets1, e_sets2, e_sets3, e_sets4, e_sets5, e_sets6, e_appall, e_all_0, e_all_1, e_all_2, e_lclA, e_lcl, e_klcl, e_joind, e_joins, e_revrd, e_addb, e_lstb, e_klstb, e_fld, e_kfld, e_meth, e_kmeth, e_kmethb, e_make, e_mko, e_init, e_kini, e_kinib, e_kinic, e_alld0, e_alld1, e_alld2, e_starti, e_flds2, e_kf1, e_kf2, e_seq, e_seqn, e_seqr, e_if, e_dif, e_ift, e_iff, e_ret, e_kret, e_retv, e_kretv, e_retn, e_asg, e_kasg, e_asge, e_kasge, e_drop, e_kdrop, e_next, e_exc, e_muts, e_mutb, e_mut, e_kmut, e_app, e_ext, e_ins, e_setb, e_kset, e_set, e_set0, e_nx, e_unp, e_kunp, e_par, e_kpar, e_par3, e_kpar3, e_for, e_kfor, e_while, e_try, e_tryk, e_tryx, e_appb, e_kappl, e_appl, e_app0, e_llof1, e_llof2, e_m2d, e_m2c, e_m2, e_m2a, e_c, e_v, e_kv, e_own, e_kown, e_vs, e_kvs1, e_kvs2, e_kvs3, e_kix, e_oix, e_koix1, e_koix2, e_oit, e_koit1, e_koit2, e_2b, e_2, e_k2, e_1, e_k1, e_a, e_tos, e_ktos, e_anil, e_consb, e_acons, e_scons, e_kcons, e_snil, e_tup, e_ktup, e_lst, e_klst, e_slcb, e_slca, e_slc, e_kslc, e_slc1, e_slc2, e_slc3, e_ono, e_oso, e_koso, e_and, e_andt, e_andf, e_or, e_ort, e_orf, e_not, e_knot, e_andv, e_orv, e_kandv, e_korv, e_andwt, e_andwf, e_orwt, e_orwf, e_chdt, e_chdf, e_chc, e_chb, e_ch, e_kch, e_tob, e_notd, e_knotd, e_neg, e_add, e_addt, e_adds, e_sub, e_lt, e_le, e_gt, e_ge, e_ixl, e_ixt, e_ixs, e_ixr, e_trn, e_trb, e_tri, e_trl, e_trt, e_trs, e_trr, e_lenl, e_lent, e_lens, e_lenr, e_abs, e_max, e_min, e_cat, e_list1, e_list2, e_tuple1, e_tuple2, e_isn, e_isnn, e_ns1, e_ns2, e_nns1, e_nns2, e_no1, e_no2, e_no3, e_no4, e_int1, e_int2, e_run, e_endn, e_endr, e_endx, e_start, e_w0, e_w1, e_frz, e_kfr, e_kfrb, e_name, e_namest, e_namesl, e_all0, e_all1, e_ktupt, e_ktupl, e_ktc, e_ktcons, e_ktnil, e_yes, e_scs, e_sc1, e_sc2, e_sc3, e_sc4, e_itl, e_itt, e_lca, e_lc, e_klc, e_l0, e_l1, e_kl1, e_kl2t, e_kl2f, e_kl3, e_lp0, e_lp1, e_klp, e_klpn, e_klpr, ok_bind, bind_exc, bind_stuck, fz_d, fz_l, fz_ll, oOf_some, noX_k, eqD_ii, neD_ii, eqD_in, neD_in, eqD_ss, gle, glt, mulL, mulR, divP, modP, rng1P, rng2P, at0, at1, at2, at3, at4, atm1a, atm1b, atm1c, atm1s, cut_tail, decide_true, decide_false, Bool.and_true, Bool.true_and, Bool.and_false, Bool.false_and, Bool.or_true, Bool.or_false, Bool.true_or, Bool.false_or, List.map_cons, List.map_nil, List.length_cons, List.length_nil, List.replicate, List.cons_append, List.nil_append, List.getElem?_cons_zero, List.getElem?_cons_succ, List.set_cons_zero, List.set_cons_succ, List.set_nil, Nat.reduceAdd, Nat.reduceSub, Nat.reduceLeDiff, Nat.reduceLT, guard_tt, ↓reduceIte, Bool.false_eq_true, Bool.not_true, Bool.not_false, Nat.zero_add, m_Signs_sees, den_Signs_sees, sg_text, sg_at, slc_nx T a h]
theorem ks_sees (T : List Nat) (a : Nat) (h : T.length ≤ 1000000) : kMethS "Signs" "sees" m_Signs_sees (some (some (.m "Signs" (signs T a)))) = .ok (.str (mkS (nx T a))) := by
  rw [e_kmeths (sg_sees T a), sees_spec T a h]; rfl
theorem fset_sg (ρ : Env) (i : Nat) (T : List Nat) (a : Nat) : kFset i "Signs" "at" ρ (.int ((a : Int) + 1)) (some (some (.m "Signs" (signs T a)))) = .ok (.next (ρ.set i (some (.m "Signs" (signs T (a + 1)))))) := by
  rw [e_kfset (sg_len T a), sg_put]
theorem fld_at (T) (a : Nat) : kFldM "Signs" "at" (some (some (.m "Signs" (signs T a)))) = .ok (.int a) := by rw [e_kfldm, sg_at]; rfl
theorem fld_text (T) (a : Nat) : kFldM "Signs" "text" (some (some (.m "Signs" (signs T a)))) = .ok (.str (mkS T)) := by rw [e_kfldm, sg_text]; rfl
theorem s_blank : (" " : Str) = mkS [32] := by decide +kernel
theorem s_none : ("" : Str) = mkS [] := by decide +kernel
theorem s_minus : ("-" : Str) = mkS [45] := by decide +kernel
theorem s_zero : ("0" : Str) = mkS [48] := by decide +kernel
theorem s_row : ("\n" : Str) = mkS [10] := by decide +kernel
theorem s_M : ("M" : Str) = mkS [77] := by decide +kernel
theorem s_L : ("L" : Str) = mkS [76] := by decide +kernel
theorem s_Q : ("Q" : Str) = mkS [81] := by decide +kernel
theorem s_figs : ("0123456789" : Str) = mkS [48, 49, 50, 51, 52, 53, 54, 55, 56, 57] := by decide +kernel
theorem nx_nil {T : List Nat} {a : Nat} (h : T.length ≤ a) : nx T a = [] := by unfold nx; rw [List.drop_eq_nil_of_le h]; rfl
theorem nx_some {T : List Nat} {a c : Nat} (h : T[a]? = some c) : nx T a = [c] := by
  unfold nx
  obtain ⟨h1, h2⟩ := List.getElem?_eq_some_iff.mp h
  rw [List.drop_eq_getElem_cons h1, h2]; rfl
/-! ### a number -/
def numO (T : List Nat) (a : Nat) : Rd → Out (List (Str × D) × D)
  | .ok k v => .ok (signs T (a + k), .int v)
  | .bad p => refO (a + p)
theorem tw_get {p : Nat → Bool} : ∀ {l : List Nat} {i : Nat}, i < (l.takeWhile p).length → ∃ c, l[i]? = some c ∧ p c = true
  | [], i, h => absurd h (by simp)
  | x :: l, i, h => by
    by_cases hp : p x = true
    · rw [List.takeWhile_cons, if_pos hp] at h
      cases i with
      | zero => exact ⟨x, rfl, hp⟩
      | succ i => exact tw_get (l := l) (i := i) (by simpa using h)
    · rw [List.takeWhile_cons, if_neg hp] at h; exact absurd h (by simp)
theorem tw_end {p : Nat → Bool} : ∀ (l : List Nat) (c : Nat), l[(l.takeWhile p).length]? = some c → p c = false
  | [], c, h => by simp at h
  | x :: l, c, h => by
    by_cases hp : p x = true
    · rw [List.takeWhile_cons, if_pos hp, List.length_cons, List.getElem?_cons_succ] at h
      exact tw_end l c h
    · rw [List.takeWhile_cons, if_neg hp, List.length_nil, List.getElem?_cons_zero] at h
      cases h; simpa using hp
theorem tw_take {p : Nat → Bool} : ∀ (l : List Nat), l.take (l.takeWhile p).length = l.takeWhile p
  | [] => by simp
  | x :: l => by
    by_cases hp : p x = true
    · rw [List.takeWhile_cons, if_pos hp, List.length_cons, List.take_succ_cons, tw_take l]
    · rw [List.takeWhile_cons, if_neg hp]; rfl
theorem tw_all {p : Nat → Bool} {l : List Nat} : ∀ c ∈ l.takeWhile p, p c = true := fun c h => by
  have := List.all_takeWhile (l := l) (p := p); rw [List.all_eq_true] at this; exact this c h
theorem figs_walk (T : List Nat) (a : Nat) (h : T.length ≤ 50000) (x y z : Option S) :
    whileD (dAnd (d1 toB (d2 neD (dMethS 0 "Signs" "sees" m_Signs_sees) (dC (.str "")))) (d1 toB (d2 inD (dMethS 0 "Signs" "sees" m_Signs_sees) (dC (.str "0123456789"))))) den_Signs_number_b1 100000 [some (.m "Signs" (signs T a)), x, y, z] =
    .ok (.next [some (.m "Signs" (signs T (a + ((T.drop a).takeWhile isFig).length))), x, y, z]) := by
  have hT : T.length ≤ 1000000 := by omega
  have hl : ((T.drop a).takeWhile isFig).length ≤ 50000 := by
    have := (List.takeWhile_prefix (p := isFig) (l := T.drop a)).length_le
    rw [List.length_drop] at this; omega
  have key := while_up (t := dAnd (d1 toB (d2 neD (dMethS 0 "Signs" "sees" m_Signs_sees) (dC (.str "")))) (d1 toB (d2 inD (dMethS 0 "Signs" "sees" m_Signs_sees) (dC (.str "0123456789"))))) (f := den_Signs_number_b1) (fun i => [some (.m "Signs" (signs T (a + i))), x, y, z]) ((T.drop a).takeWhile isFig).length (fun i hi => by
    obtain ⟨c, hc, hf⟩ := tw_get hi
    rw [List.getElem?_drop] at hc
    have hn := nx_some hc
    constructor
    · simp (maxSteps := 2000000) (disch := omega) only [e_lend, e_lend1, e_lend2, e_lend3, e_lend4, e_lend5, e_lend6, e_oixx, e_oixx1, e_oixx2, e_oixx3, e_oixx4, e_sets, e_sets0, e_sets1, e_sets2, e_sets3, e_sets4, e_sets5, e_sets6, e_appall, e_all_0, e_all_1, e_all_2, e_lclA, e_lcl, e_klcl, e_joind, e_joins, e_revrd, e_addb, e_lstb, e_klstb, e_fld, e_kfld, e_meth, e_kmeth, e_kmethb, e_make, e_mko, e_init, e_kini, e_kinib, e_kinic, e_alld0, e_alld1, e_alld2, e_starti, e_flds2, e_kf1, e_kf2, e_seq, e_seqn, e_seqr, e_if, e_dif, e_ift, e_iff, e_ret, e_kret, e_retv, e_kretv, e_retn, e_asg, e_kasg, e_asge, e_kasge, e_drop, e_kdrop, e_next, e_exc, e_muts, e_mutb, e_mut, e_kmut, e_app, e_ext, e_ins, e_setb, e_kset, e_set, e_set0, e_nx, e_unp, e_kunp, e_par, e_kpar, e_par3, e_kpar3, e_for, e_kfor, e_while, e_try, e_tryk, e_tryx, e_appb, e_kappl, e_appl, e_app0, e_llof1, e_llof2, e_m2d, e_m2c, e_m2, e_m2a, e_c, e_v, e_kv, e_own, e_kown, e_vs, e_kvs1, e_kvs2, e_kvs3, e_kix, e_oix, e_koix1, e_koix2, e_oit, e_koit1, e_koit2, e_2b, e_2, e_k2, e_1, e_k1, e_a, e_tos, e_ktos, e_anil, e_consb, e_acons, e_scons, e_kcons, e_snil, e_tup, e_ktup, e_lst, e_klst, e_slcb, e_slca, e_slc, e_kslc, e_slc1, e_slc2, e_slc3, e_ono, e_oso, e_koso, e_and, e_andt, e_andf, e_or, e_ort, e_orf, e_not, e_knot, e_andv, e_orv, e_kandv, e_korv, e_andwt, e_andwf, e_orwt, e_orwf, e_chdt, e_chdf, e_chc, e_chb, e_ch, e_kch, e_tob, e_notd, e_knotd, e_neg, e_add, e_addt, e_adds, e_sub, e_lt, e_le, e_gt, e_ge, e_ixl, e_ixt, e_ixs, e_ixr, e_trn, e_trb, e_tri, e_trl, e_trt, e_trs, e_trr, e_lenl, e_lent, e_lens, e_lenr, e_abs, e_max, e_min, e_cat, e_list1, e_list2, e_tuple1, e_tuple2, e_isn, e_isnn, e_ns1, e_ns2, e_nns1, e_nns2, e_no1, e_no2, e_no3, e_no4, e_int1, e_int2, e_run, e_endn, e_endr, e_endx, e_start, e_w0, e_w1, e_frz, e_kfr, e_kfrb, e_name, e_namest, e_namesl, e_all0, e_all1, e_ktupt, e_ktupl, e_ktc, e_ktcons, e_ktnil, e_yes, e_scs, e_sc1, e_sc2, e_sc3, e_sc4, e_itl, e_itt, e_lca, e_lc, e_klc, e_l0, e_l1, e_kl1, e_kl2t, e_kl2f, e_kl3, e_lp0, e_lp1, e_klp, e_klpn, e_klpr, ok_bind, bind_exc, bind_stuck, fz_d, fz_l, fz_ll, oOf_some, noX_k, eqD_ii, neD_ii, eqD_in, neD_in, eqD_ss, gle, glt, mulL, mulR, divP, modP, rng1P, rng2P, at0, at1, at2, at3, at4, atm1a, atm1b, atm1c, atm1s, cut_tail, decide_true, decide_false, Bool.and_true, Bool.true_and, Bool.and_false, Bool.false_and, Bool.or_true, Bool.or_false, Bool.true_or, Bool.false_or, List.map_cons, List.map_nil, List.length_cons, List.length_nil, List.replicate, List.cons_append, List.nil_append, List.getElem?_cons_zero, List.getElem?_cons_succ, List.set_cons_zero, List.set_cons_succ, List.set_nil, Nat.reduceAdd, Nat.reduceSub, Nat.reduceLeDiff, Nat.reduceLT, guard_tt, ↓reduceIte, Bool.false_eq_true, Bool.not_true, Bool.not_false, Nat.zero_add, e_meths, ks_sees T (a + i) hT, hn, s_none, s_figs, ne_str', in_str, isFig_mem, hf, List.cons_ne_nil]
    · simp (maxSteps := 2000000) (disch := omega) only [e_lend, e_lend1, e_lend2, e_lend3, e_lend4, e_lend5, e_lend6, e_oixx, e_oixx1, e_oixx2, e_oixx3, e_oixx4, e_sets, e_sets0, e_sets1, e_sets2, e_sets3, e_sets4, e_sets5, e_sets6, e_appall, e_all_0, e_all_1, e_all_2, e_lclA, e_lcl, e_klcl, e_joind, e_joins, e_revrd, e_addb, e_lstb, e_klstb, e_fld, e_kfld, e_meth, e_kmeth, e_kmethb, e_make, e_mko, e_init, e_kini, e_kinib, e_kinic, e_alld0, e_alld1, e_alld2, e_starti, e_flds2, e_kf1, e_kf2, e_seq, e_seqn, e_seqr, e_if, e_dif, e_ift, e_iff, e_ret, e_kret, e_retv, e_kretv, e_retn, e_asg, e_kasg, e_asge, e_kasge, e_drop, e_kdrop, e_next, e_exc, e_muts, e_mutb, e_mut, e_kmut, e_app, e_ext, e_ins, e_setb, e_kset, e_set, e_set0, e_nx, e_unp, e_kunp, e_par, e_kpar, e_par3, e_kpar3, e_for, e_kfor, e_while, e_try, e_tryk, e_tryx, e_appb, e_kappl, e_appl, e_app0, e_llof1, e_llof2, e_m2d, e_m2c, e_m2, e_m2a, e_c, e_v, e_kv, e_own, e_kown, e_vs, e_kvs1, e_kvs2, e_kvs3, e_kix, e_oix, e_koix1, e_koix2, e_oit, e_koit1, e_koit2, e_2b, e_2, e_k2, e_1, e_k1, e_a, e_tos, e_ktos, e_anil, e_consb, e_acons, e_scons, e_kcons, e_snil, e_tup, e_ktup, e_lst, e_klst, e_slcb, e_slca, e_slc, e_kslc, e_slc1, e_slc2, e_slc3, e_ono, e_oso, e_koso, e_and, e_andt, e_andf, e_or, e_ort, e_orf, e_not, e_knot, e_andv, e_orv, e_kandv, e_korv, e_andwt, e_andwf, e_orwt, e_orwf, e_chdt, e_chdf, e_chc, e_chb, e_ch, e_kch, e_tob, e_notd, e_knotd, e_neg, e_add, e_addt, e_adds, e_sub, e_lt, e_le, e_gt, e_ge, e_ixl, e_ixt, e_ixs, e_ixr, e_trn, e_trb, e_tri, e_trl, e_trt, e_trs, e_trr, e_lenl, e_lent, e_lens, e_lenr, e_abs, e_max, e_min, e_cat, e_list1, e_list2, e_tuple1, e_tuple2, e_isn, e_isnn, e_ns1, e_ns2, e_nns1, e_nns2, e_no1, e_no2, e_no3, e_no4, e_int1, e_int2, e_run, e_endn, e_endr, e_endx, e_start, e_w0, e_w1, e_frz, e_kfr, e_kfrb, e_name, e_namest, e_namesl, e_all0, e_all1, e_ktupt, e_ktupl, e_ktc, e_ktcons, e_ktnil, e_yes, e_scs, e_sc1, e_sc2, e_sc3, e_sc4, e_itl, e_itt, e_lca, e_lc, e_klc, e_l0, e_l1, e_kl1, e_kl2t, e_kl2f, e_kl3, e_lp0, e_lp1, e_klp, e_klpn, e_klpr, ok_bind, bind_exc, bind_stuck, fz_d, fz_l, fz_ll, oOf_some, noX_k, eqD_ii, neD_ii, eqD_in, neD_in, eqD_ss, gle, glt, mulL, mulR, divP, modP, rng1P, rng2P, at0, at1, at2, at3, at4, atm1a, atm1b, atm1c, atm1s, cut_tail, decide_true, decide_false, Bool.and_true, Bool.true_and, Bool.and_false, Bool.false_and, Bool.or_true, Bool.or_false, Bool.true_or, Bool.false_or, List.map_cons, List.map_nil, List.length_cons, List.length_nil, List.replicate, List.cons_append, List.nil_append, List.getElem?_cons_zero, List.getElem?_cons_succ, List.set_cons_zero, List.set_cons_succ, List.set_nil, Nat.reduceAdd, Nat.reduceSub, Nat.reduceLeDiff, Nat.reduceLT, guard_tt, ↓reduceIte, Bool.false_eq_true, Bool.not_true, Bool.not_false, Nat.zero_add, den_Signs_number_b1, e_fset, e_kfset0, e_fldm, fld_at, fset_sg, Nat.add_assoc]) (by
    generalize hL : ((T.drop a).takeWhile isFig).length = L at *
    cases q : T[a + L]? with
    | none =>
      have hn : nx T (a + L) = [] := nx_nil (by rw [List.getElem?_eq_none_iff] at q; exact q)
      simp (maxSteps := 2000000) (disch := omega) only [e_lend, e_lend1, e_lend2, e_lend3, e_lend4, e_lend5, e_lend6, e_oixx, e_oixx1, e_oixx2, e_oixx3, e_oixx4, e_sets, e_sets0, e_sets1, e_sets2, e_sets3, e_sets4, e_sets5, e_sets6, e_appall, e_all_0, e_all_1, e_all_2, e_lclA, e_lcl, e_klcl, e_joind, e_joins, e_revrd, e_addb, e_lstb, e_klstb, e_fld, e_kfld, e_meth, e_kmeth, e_kmethb, e_make, e_mko, e_init, e_kini, e_kinib, e_kinic, e_alld0, e_alld1, e_alld2, e_starti, e_flds2, e_kf1, e_kf2, e_seq, e_seqn, e_seqr, e_if, e_dif, e_ift, e_iff, e_ret, e_kret, e_retv, e_kretv, e_retn, e_asg, e_kasg, e_asge, e_kasge, e_drop, e_kdrop, e_next, e_exc, e_muts, e_mutb, e_mut, e_kmut, e_app, e_ext, e_ins, e_setb, e_kset, e_set, e_set0, e_nx, e_unp, e_kunp, e_par, e_kpar, e_par3, e_kpar3, e_for, e_kfor, e_while, e_try, e_tryk, e_tryx, e_appb, e_kappl, e_appl, e_app0, e_llof1, e_llof2, e_m2d, e_m2c, e_m2, e_m2a, e_c, e_v, e_kv, e_own, e_kown, e_vs, e_kvs1, e_kvs2, e_kvs3, e_kix, e_oix, e_koix1, e_koix2, e_oit, e_koit1, e_koit2, e_2b, e_2, e_k2, e_1, e_k1, e_a, e_tos, e_ktos, e_anil, e_consb, e_acons, e_scons, e_kcons, e_snil, e_tup, e_ktup, e_lst, e_klst, e_slcb, e_slca, e_slc, e_kslc, e_slc1, e_slc2, e_slc3, e_ono, e_oso, e_koso, e_and, e_andt, e_andf, e_or, e_ort, e_orf, e_not, e_knot, e_andv, e_orv, e_kandv, e_korv, e_andwt, e_andwf, e_orwt, e_orwf, e_chdt, e_chdf, e_chc, e_chb, e_ch, e_kch, e_tob, e_notd, e_knotd, e_neg, e_add, e_addt, e_adds, e_sub, e_lt, e_le, e_gt, e_ge, e_ixl, e_ixt, e_ixs, e_ixr, e_trn, e_trb, e_tri, e_trl, e_trt, e_trs, e_trr, e_lenl, e_lent, e_lens, e_lenr, e_abs, e_max, e_min, e_cat, e_list1, e_list2, e_tuple1, e_tuple2, e_isn, e_isnn, e_ns1, e_ns2, e_nns1, e_nns2, e_no1, e_no2, e_no3, e_no4, e_int1, e_int2, e_run, e_endn, e_endr, e_endx, e_start, e_w0, e_w1, e_frz, e_kfr, e_kfrb, e_name, e_namest, e_namesl, e_all0, e_all1, e_ktupt, e_ktupl, e_ktc, e_ktcons, e_ktnil, e_yes, e_scs, e_sc1, e_sc2, e_sc3, e_sc4, e_itl, e_itt, e_lca, e_lc, e_klc, e_l0, e_l1, e_kl1, e_kl2t, e_kl2f, e_kl3, e_lp0, e_lp1, e_klp, e_klpn, e_klpr, ok_bind, bind_exc, bind_stuck, fz_d, fz_l, fz_ll, oOf_some, noX_k, eqD_ii, neD_ii, eqD_in, neD_in, eqD_ss, gle, glt, mulL, mulR, divP, modP, rng1P, rng2P, at0, at1, at2, at3, at4, atm1a, atm1b, atm1c, atm1s, cut_tail, decide_true, decide_false, Bool.and_true, Bool.true_and, Bool.and_false, Bool.false_and, Bool.or_true, Bool.or_false, Bool.true_or, Bool.false_or, List.map_cons, List.map_nil, List.length_cons, List.length_nil, List.replicate, List.cons_append, List.nil_append, List.getElem?_cons_zero, List.getElem?_cons_succ, List.set_cons_zero, List.set_cons_succ, List.set_nil, Nat.reduceAdd, Nat.reduceSub, Nat.reduceLeDiff, Nat.reduceLT, guard_tt, ↓reduceIte, Bool.false_eq_true, Bool.not_true, Bool.not_false, Nat.zero_add, e_meths, ks_sees T (a + L) hT, hn, s_none, s_figs, ne_str', in_str]
    | some c =>
      have hf : isFig c = false := tw_end (p := isFig) (T.drop a) c (by rw [List.getElem?_drop, hL]; exact q)
      have hn := nx_some q
      simp (maxSteps := 2000000) (disch := omega) only [e_lend, e_lend1, e_lend2, e_lend3, e_lend4, e_lend5, e_lend6, e_oixx, e_oixx1, e_oixx2, e_oixx3, e_oixx4, e_sets, e_sets0, e_sets1, e_sets2, e_sets3, e_sets4, e_sets5, e_sets6, e_appall, e_all_0, e_all_1, e_all_2, e_lclA, e_lcl, e_klcl, e_joind, e_joins, e_revrd, e_addb, e_lstb, e_klstb, e_fld, e_kfld, e_meth, e_kmeth, e_kmethb, e_make, e_mko, e_init, e_kini, e_kinib, e_kinic, e_alld0, e_alld1, e_alld2, e_starti, e_flds2, e_kf1, e_kf2, e_seq, e_seqn, e_seqr, e_if, e_dif, e_ift, e_iff, e_ret, e_kret, e_retv, e_kretv, e_retn, e_asg, e_kasg, e_asge, e_kasge, e_drop, e_kdrop, e_next, e_exc, e_muts, e_mutb, e_mut, e_kmut, e_app, e_ext, e_ins, e_setb, e_kset, e_set, e_set0, e_nx, e_unp, e_kunp, e_par, e_kpar, e_par3, e_kpar3, e_for, e_kfor, e_while, e_try, e_tryk, e_tryx, e_appb, e_kappl, e_appl, e_app0, e_llof1, e_llof2, e_m2d, e_m2c, e_m2, e_m2a, e_c, e_v, e_kv, e_own, e_kown, e_vs, e_kvs1, e_kvs2, e_kvs3, e_kix, e_oix, e_koix1, e_koix2, e_oit, e_koit1, e_koit2, e_2b, e_2, e_k2, e_1, e_k1, e_a, e_tos, e_ktos, e_anil, e_consb, e_acons, e_scons, e_kcons, e_snil, e_tup, e_ktup, e_lst, e_klst, e_slcb, e_slca, e_slc, e_kslc, e_slc1, e_slc2, e_slc3, e_ono, e_oso, e_koso, e_and, e_andt, e_andf, e_or, e_ort, e_orf, e_not, e_knot, e_andv, e_orv, e_kandv, e_korv, e_andwt, e_andwf, e_orwt, e_orwf, e_chdt, e_chdf, e_chc, e_chb, e_ch, e_kch, e_tob, e_notd, e_knotd, e_neg, e_add, e_addt, e_adds, e_sub, e_lt, e_le, e_gt, e_ge, e_ixl, e_ixt, e_ixs, e_ixr, e_trn, e_trb, e_tri, e_trl, e_trt, e_trs, e_trr, e_lenl, e_lent, e_lens, e_lenr, e_abs, e_max, e_min, e_cat, e_list1, e_list2, e_tuple1, e_tuple2, e_isn, e_isnn, e_ns1, e_ns2, e_nns1, e_nns2, e_no1, e_no2, e_no3, e_no4, e_int1, e_int2, e_run, e_endn, e_endr, e_endx, e_start, e_w0, e_w1, e_frz, e_kfr, e_kfrb, e_name, e_namest, e_namesl, e_all0, e_all1, e_ktupt, e_ktupl, e_ktc, e_ktcons, e_ktnil, e_yes, e_scs, e_sc1, e_sc2, e_sc3, e_sc4, e_itl, e_itt, e_lca, e_lc, e_klc, e_l0, e_l1, e_kl1, e_kl2t, e_kl2f, e_kl3, e_lp0, e_lp1, e_klp, e_klpn, e_klpr, ok_bind, bind_exc, bind_stuck, fz_d, fz_l, fz_ll, oOf_some, noX_k, eqD_ii, neD_ii, eqD_in, neD_in, eqD_ss, gle, glt, mulL, mulR, divP, modP, rng1P, rng2P, at0, at1, at2, at3, at4, atm1a, atm1b, atm1c, atm1s, cut_tail, decide_true, decide_false, Bool.and_true, Bool.true_and, Bool.and_false, Bool.false_and, Bool.or_true, Bool.or_false, Bool.true_or, Bool.false_or, List.map_cons, List.map_nil, List.length_cons, List.length_nil, List.replicate, List.cons_append, List.nil_append, List.getElem?_cons_zero, List.getElem?_cons_succ, List.set_cons_zero, List.set_cons_succ, List.set_nil, Nat.reduceAdd, Nat.reduceSub, Nat.reduceLeDiff, Nat.reduceLT, guard_tt, ↓reduceIte, Bool.false_eq_true, Bool.not_true, Bool.not_false, Nat.zero_add, e_meths, ks_sees T (a + L) hT, hn, s_none, s_figs, ne_str', in_str, isFig_mem, hf, List.cons_ne_nil]) 100000 0 (Nat.zero_le _) (by omega)
  exact key
end G

set_option Elab.async false
set_option linter.all false
set_option maxRecDepth 100000
set_option maxHeartbeats 8000000
namespace G
open PySem L2
theorem slc_word (T : List Nat) (f : Nat) (p : Nat → Bool) : (T.drop f).take (f + ((T.drop f).takeWhile p).length - f) = (T.drop f).takeWhile p := by
  rw [Nat.add_sub_cancel_left, tw_take]
theorem drop_cons {T : List Nat} {a c : Nat} (h : nx T a = [c]) : T.drop a = c :: T.drop (a + 1) := by
  unfold nx at h
  cases q : T.drop a with
  | nil => rw [q] at h; cases h
  | cons x r =>
    rw [q] at h
    have h : [x] = [c] := h
    cases h
    rw [← List.drop_drop, q]; rfl
/-- the tests on the word -/
theorem num_s7 (T : List Nat) (a s f : Nat) (w : List Nat) : den_Signs_number_s7 [some (.m "Signs" (signs T a)), some (.d (.int s)), some (.d (.int f)), some (.d (.str (mkS w)))] = if w = [] then refO a else .ok (.next [some (.m "Signs" (signs T a)), some (.d (.int s)), some (.d (.int f)), some (.d (.str (mkS w)))]) := by
  by_cases h : w = []
  · simp (maxSteps := 2000000) (disch := omega) only [e_lend, e_lend1, e_lend2, e_lend3, e_lend4, e_lend5, e_lend6, e_oixx, e_oixx1, e_oixx2, e_oixx3, e_oixx4, e_sets, e_sets0, e_sets1, e_sets2, e_sets3, e_sets4, e_sets5, e_sets6, e_appall, e_all_0, e_all_1, e_all_2, e_lclA, e_lcl, e_klcl, e_joind, e_joins, e_revrd, e_addb, e_lstb, e_klstb, e_fld, e_kfld, e_meth, e_kmeth, e_kmethb, e_make, e_mko, e_init, e_kini, e_kinib, e_kinic, e_alld0, e_alld1, e_alld2, e_starti, e_flds2, e_kf1, e_kf2, e_seq, e_seqn, e_seqr, e_if, e_dif, e_ift, e_iff, e_ret, e_kret, e_retv, e_kretv, e_retn, e_asg, e_kasg, e_asge, e_kasge, e_drop, e_kdrop, e_next, e_exc, e_muts, e_mutb, e_mut, e_kmut, e_app, e_ext, e_ins, e_setb, e_kset, e_set, e_set0, e_nx, e_unp, e_kunp, e_par, e_kpar, e_par3, e_kpar3, e_for, e_kfor, e_while, e_try, e_tryk, e_tryx, e_appb, e_kappl, e_appl, e_app0, e_llof1, e_llof2, e_m2d, e_m2c, e_m2, e_m2a, e_c, e_v, e_kv, e_own, e_kown, e_vs, e_kvs1, e_kvs2, e_kvs3, e_kix, e_oix, e_koix1, e_koix2, e_oit, e_koit1, e_koit2, e_2b, e_2, e_k2, e_1, e_k1, e_a, e_tos, e_ktos, e_anil, e_consb, e_acons, e_scons, e_kcons, e_snil, e_tup, e_ktup, e_lst, e_klst, e_slcb, e_slca, e_slc, e_kslc, e_slc1, e_slc2, e_slc3, e_ono, e_oso, e_koso, e_and, e_andt, e_andf, e_or, e_ort, e_orf, e_not, e_knot, e_andv, e_orv, e_kandv, e_korv, e_andwt, e_andwf, e_orwt, e_orwf, e_chdt, e_chdf, e_chc, e_chb, e_ch, e_kch, e_tob, e_notd, e_knotd, e_neg, e_add, e_addt, e_adds, e_sub, e_lt, e_le, e_gt, e_ge, e_ixl, e_ixt, e_ixs, e_ixr, e_trn, e_trb, e_tri, e_trl, e_trt, e_trs, e_trr, e_lenl, e_lent, e_lens, e_lenr, e_abs, e_max, e_min, e_cat, e_list1, e_list2, e_tuple1, e_tuple2, e_isn, e_isnn, e_ns1, e_ns2, e_nns1, e_nns2, e_no1, e_no2, e_no3, e_no4, e_int1, e_int2, e_run, e_endn, e_endr, e_endx, e_start, e_w0, e_w1, e_frz, e_kfr, e_kfrb, e_name, e_namest, e_namesl, e_all0, e_all1, e_ktupt, e_ktupl, e_ktc, e_ktcons, e_ktnil, e_yes, e_scs, e_sc1, e_sc2, e_sc3, e_sc4, e_itl, e_itt, e_lca, e_lc, e_klc, e_l0, e_l1, e_kl1, e_kl2t, e_kl2f, e_kl3, e_lp0, e_lp1, e_klp, e_klpn, e_klpr, ok_bind, bind_exc, bind_stuck, fz_d, fz_l, fz_ll, oOf_some, noX_k, eqD_ii, neD_ii, eqD_in, neD_in, eqD_ss, gle, glt, mulL, mulR, divP, modP, rng1P, rng2P, at0, at1, at2, at3, at4, atm1a, atm1b, atm1c, atm1s, cut_tail, decide_true, decide_false, Bool.and_true, Bool.true_and, Bool.and_false, Bool.false_and, Bool.or_true, Bool.or_false, Bool.true_or, Bool.false_or, List.map_cons, List.map_nil, List.length_cons, List.length_nil, List.replicate, List.cons_append, List.nil_append, List.getElem?_cons_zero, List.getElem?_cons_succ, List.set_cons_zero, List.set_cons_succ, List.set_nil, Nat.reduceAdd, Nat.reduceSub, Nat.reduceLeDiff, Nat.reduceLT, guard_tt, ↓reduceIte, Bool.false_eq_true, Bool.not_true, Bool.not_false, Nat.zero_add, den_Signs_number_s7, s_none, eq_str, mkS_beq, h, e_stuck, refO]
  · simp (maxSteps := 2000000) (disch := omega) only [e_lend, e_lend1, e_lend2, e_lend3, e_lend4, e_lend5, e_lend6, e_oixx, e_oixx1, e_oixx2, e_oixx3, e_oixx4, e_sets, e_sets0, e_sets1, e_sets2, e_sets3, e_sets4, e_sets5, e_sets6, e_appall, e_all_0, e_all_1, e_all_2, e_lclA, e_lcl, e_klcl, e_joind, e_joins, e_revrd, e_addb, e_lstb, e_klstb, e_fld, e_kfld, e_meth, e_kmeth, e_kmethb, e_make, e_mko, e_init, e_kini, e_kinib, e_kinic, e_alld0, e_alld1, e_alld2, e_starti, e_flds2, e_kf1, e_kf2, e_seq, e_seqn, e_seqr, e_if, e_dif, e_ift, e_iff, e_ret, e_kret, e_retv, e_kretv, e_retn, e_asg, e_kasg, e_asge, e_kasge, e_drop, e_kdrop, e_next, e_exc, e_muts, e_mutb, e_mut, e_kmut, e_app, e_ext, e_ins, e_setb, e_kset, e_set, e_set0, e_nx, e_unp, e_kunp, e_par, e_kpar, e_par3, e_kpar3, e_for, e_kfor, e_while, e_try, e_tryk, e_tryx, e_appb, e_kappl, e_appl, e_app0, e_llof1, e_llof2, e_m2d, e_m2c, e_m2, e_m2a, e_c, e_v, e_kv, e_own, e_kown, e_vs, e_kvs1, e_kvs2, e_kvs3, e_kix, e_oix, e_koix1, e_koix2, e_oit, e_koit1, e_koit2, e_2b, e_2, e_k2, e_1, e_k1, e_a, e_tos, e_ktos, e_anil, e_consb, e_acons, e_scons, e_kcons, e_snil, e_tup, e_ktup, e_lst, e_klst, e_slcb, e_slca, e_slc, e_kslc, e_slc1, e_slc2, e_slc3, e_ono, e_oso, e_koso, e_and, e_andt, e_andf, e_or, e_ort, e_orf, e_not, e_knot, e_andv, e_orv, e_kandv, e_korv, e_andwt, e_andwf, e_orwt, e_orwf, e_chdt, e_chdf, e_chc, e_chb, e_ch, e_kch, e_tob, e_notd, e_knotd, e_neg, e_add, e_addt, e_adds, e_sub, e_lt, e_le, e_gt, e_ge, e_ixl, e_ixt, e_ixs, e_ixr, e_trn, e_trb, e_tri, e_trl, e_trt, e_trs, e_trr, e_lenl, e_lent, e_lens, e_lenr, e_abs, e_max, e_min, e_cat, e_list1, e_list2, e_tuple1, e_tuple2, e_isn, e_isnn, e_ns1, e_ns2, e_nns1, e_nns2, e_no1, e_no2, e_no3, e_no4, e_int1, e_int2, e_run, e_endn, e_endr, e_endx, e_start, e_w0, e_w1, e_frz, e_kfr, e_kfrb, e_name, e_namest, e_namesl, e_all0, e_all1, e_ktupt, e_ktupl, e_ktc, e_ktcons, e_ktnil, e_yes, e_scs, e_sc1, e_sc2, e_sc3, e_sc4, e_itl, e_itt, e_lca, e_lc, e_klc, e_l0, e_l1, e_kl1, e_kl2t, e_kl2f, e_kl3, e_lp0, e_lp1, e_klp, e_klpn, e_klpr, ok_bind, bind_exc, bind_stuck, fz_d, fz_l, fz_ll, oOf_some, noX_k, eqD_ii, neD_ii, eqD_in, neD_in, eqD_ss, gle, glt, mulL, mulR, divP, modP, rng1P, rng2P, at0, at1, at2, at3, at4, atm1a, atm1b, atm1c, atm1s, cut_tail, decide_true, decide_false, Bool.and_true, Bool.true_and, Bool.and_false, Bool.false_and, Bool.or_true, Bool.or_false, Bool.true_or, Bool.false_or, List.map_cons, List.map_nil, List.length_cons, List.length_nil, List.replicate, List.cons_append, List.nil_append, List.getElem?_cons_zero, List.getElem?_cons_succ, List.set_cons_zero, List.set_cons_succ, List.set_nil, Nat.reduceAdd, Nat.reduceSub, Nat.reduceLeDiff, Nat.reduceLT, guard_tt, ↓reduceIte, Bool.false_eq_true, Bool.not_true, Bool.not_false, Nat.zero_add, den_Signs_number_s7, s_none, eq_str, mkS_beq, h, e_stuck, refO]
theorem num_s8 (T : List Nat) (a s f : Nat) (w : List Nat) (h0 : w ≠ []) (hw : w.length ≤ 50000) : den_Signs_number_s8 [some (.m "Signs" (signs T a)), some (.d (.int s)), some (.d (.int f)), some (.d (.str (mkS w)))] = if (1 < w.length ∧ w[0]? = some 48) ∨ (w = [48] ∧ s < f) then refO s else .ok (.next [some (.m "Signs" (signs T a)), some (.d (.int s)), some (.d (.int f)), some (.d (.str (mkS w)))]) := by
  obtain ⟨c, r, rfl⟩ := List.exists_cons_of_ne_nil h0
  generalize hW : c :: r = W at *
  have hl := len_str W (by omega)
  have hi : idxD (.str (mkS W)) (.int 0) = .ok (.str (mkS [c])) := ix_str W 0 c (by omega) (by rw [← hW]; rfl)
  have hg : W[0]? = some c := by rw [← hW]; rfl
  have e48 : (W[0]? = some 48) ↔ c = 48 := by rw [hg]; simp
  simp only [e48]
  by_cases h1 : 1 < W.length
  · have d1 : decide ((1 : Int) < (W.length : Nat)) = true := decide_eq_true (by omega)
    have n1 : ¬ W = [48] := fun z => by rw [z] at h1; simp at h1
    by_cases h2 : c = 48
    · have d2 : decide ([c] = [48]) = true := decide_eq_true (by rw [h2])
      rw [if_pos (Or.inl ⟨h1, h2⟩)]
      simp (maxSteps := 2000000) (disch := omega) only [e_lend, e_lend1, e_lend2, e_lend3, e_lend4, e_lend5, e_lend6, e_oixx, e_oixx1, e_oixx2, e_oixx3, e_oixx4, e_sets, e_sets0, e_sets1, e_sets2, e_sets3, e_sets4, e_sets5, e_sets6, e_appall, e_all_0, e_all_1, e_all_2, e_lclA, e_lcl, e_klcl, e_joind, e_joins, e_revrd, e_addb, e_lstb, e_klstb, e_fld, e_kfld, e_meth, e_kmeth, e_kmethb, e_make, e_mko, e_init, e_kini, e_kinib, e_kinic, e_alld0, e_alld1, e_alld2, e_starti, e_flds2, e_kf1, e_kf2, e_seq, e_seqn, e_seqr, e_if, e_dif, e_ift, e_iff, e_ret, e_kret, e_retv, e_kretv, e_retn, e_asg, e_kasg, e_asge, e_kasge, e_drop, e_kdrop, e_next, e_exc, e_muts, e_mutb, e_mut, e_kmut, e_app, e_ext, e_ins, e_setb, e_kset, e_set, e_set0, e_nx, e_unp, e_kunp, e_par, e_kpar, e_par3, e_kpar3, e_for, e_kfor, e_while, e_try, e_tryk, e_tryx, e_appb, e_kappl, e_appl, e_app0, e_llof1, e_llof2, e_m2d, e_m2c, e_m2, e_m2a, e_c, e_v, e_kv, e_own, e_kown, e_vs, e_kvs1, e_kvs2, e_kvs3, e_kix, e_oix, e_koix1, e_koix2, e_oit, e_koit1, e_koit2, e_2b, e_2, e_k2, e_1, e_k1, e_a, e_tos, e_ktos, e_anil, e_consb, e_acons, e_scons, e_kcons, e_snil, e_tup, e_ktup, e_lst, e_klst, e_slcb, e_slca, e_slc, e_kslc, e_slc1, e_slc2, e_slc3, e_ono, e_oso, e_koso, e_and, e_andt, e_andf, e_or, e_ort, e_orf, e_not, e_knot, e_andv, e_orv, e_kandv, e_korv, e_andwt, e_andwf, e_orwt, e_orwf, e_chdt, e_chdf, e_chc, e_chb, e_ch, e_kch, e_tob, e_notd, e_knotd, e_neg, e_add, e_addt, e_adds, e_sub, e_lt, e_le, e_gt, e_ge, e_ixl, e_ixt, e_ixs, e_ixr, e_trn, e_trb, e_tri, e_trl, e_trt, e_trs, e_trr, e_lenl, e_lent, e_lens, e_lenr, e_abs, e_max, e_min, e_cat, e_list1, e_list2, e_tuple1, e_tuple2, e_isn, e_isnn, e_ns1, e_ns2, e_nns1, e_nns2, e_no1, e_no2, e_no3, e_no4, e_int1, e_int2, e_run, e_endn, e_endr, e_endx, e_start, e_w0, e_w1, e_frz, e_kfr, e_kfrb, e_name, e_namest, e_namesl, e_all0, e_all1, e_ktupt, e_ktupl, e_ktc, e_ktcons, e_ktnil, e_yes, e_scs, e_sc1, e_sc2, e_sc3, e_sc4, e_itl, e_itt, e_lca, e_lc, e_klc, e_l0, e_l1, e_kl1, e_kl2t, e_kl2f, e_kl3, e_lp0, e_lp1, e_klp, e_klpn, e_klpr, ok_bind, bind_exc, bind_stuck, fz_d, fz_l, fz_ll, oOf_some, noX_k, eqD_ii, neD_ii, eqD_in, neD_in, eqD_ss, gle, glt, mulL, mulR, divP, modP, rng1P, rng2P, at0, at1, at2, at3, at4, atm1a, atm1b, atm1c, atm1s, cut_tail, decide_true, decide_false, Bool.and_true, Bool.true_and, Bool.and_false, Bool.false_and, Bool.or_true, Bool.or_false, Bool.true_or, Bool.false_or, List.map_cons, List.map_nil, List.length_cons, List.length_nil, List.replicate, List.cons_append, List.nil_append, List.getElem?_cons_zero, List.getElem?_cons_succ, List.set_cons_zero, List.set_cons_succ, List.set_nil, Nat.reduceAdd, Nat.reduceSub, Nat.reduceLeDiff, Nat.reduceLT, guard_tt, ↓reduceIte, Bool.false_eq_true, Bool.not_true, Bool.not_false, Nat.zero_add, den_Signs_number_s8, hl, d1, hi, s_zero, eq_str, mkS_beq, d2, e_stuck, refO]
    · have d2 : decide ([c] = [48]) = false := decide_eq_false (by simpa using h2)
      rw [if_neg (by rintro (⟨_, z⟩ | ⟨z, _⟩); exact h2 z; exact n1 z)]
      simp (maxSteps := 2000000) (disch := omega) only [e_lend, e_lend1, e_lend2, e_lend3, e_lend4, e_lend5, e_lend6, e_oixx, e_oixx1, e_oixx2, e_oixx3, e_oixx4, e_sets, e_sets0, e_sets1, e_sets2, e_sets3, e_sets4, e_sets5, e_sets6, e_appall, e_all_0, e_all_1, e_all_2, e_lclA, e_lcl, e_klcl, e_joind, e_joins, e_revrd, e_addb, e_lstb, e_klstb, e_fld, e_kfld, e_meth, e_kmeth, e_kmethb, e_make, e_mko, e_init, e_kini, e_kinib, e_kinic, e_alld0, e_alld1, e_alld2, e_starti, e_flds2, e_kf1, e_kf2, e_seq, e_seqn, e_seqr, e_if, e_dif, e_ift, e_iff, e_ret, e_kret, e_retv, e_kretv, e_retn, e_asg, e_kasg, e_asge, e_kasge, e_drop, e_kdrop, e_next, e_exc, e_muts, e_mutb, e_mut, e_kmut, e_app, e_ext, e_ins, e_setb, e_kset, e_set, e_set0, e_nx, e_unp, e_kunp, e_par, e_kpar, e_par3, e_kpar3, e_for, e_kfor, e_while, e_try, e_tryk, e_tryx, e_appb, e_kappl, e_appl, e_app0, e_llof1, e_llof2, e_m2d, e_m2c, e_m2, e_m2a, e_c, e_v, e_kv, e_own, e_kown, e_vs, e_kvs1, e_kvs2, e_kvs3, e_kix, e_oix, e_koix1, e_koix2, e_oit, e_koit1, e_koit2, e_2b, e_2, e_k2, e_1, e_k1, e_a, e_tos, e_ktos, e_anil, e_consb, e_acons, e_scons, e_kcons, e_snil, e_tup, e_ktup, e_lst, e_klst, e_slcb, e_slca, e_slc, e_kslc, e_slc1, e_slc2, e_slc3, e_ono, e_oso, e_koso, e_and, e_andt, e_andf, e_or, e_ort, e_orf, e_not, e_knot, e_andv, e_orv, e_kandv, e_korv, e_andwt, e_andwf, e_orwt, e_orwf, e_chdt, e_chdf, e_chc, e_chb, e_ch, e_kch, e_tob, e_notd, e_knotd, e_neg, e_add, e_addt, e_adds, e_sub, e_lt, e_le, e_gt, e_ge, e_ixl, e_ixt, e_ixs, e_ixr, e_trn, e_trb, e_tri, e_trl, e_trt, e_trs, e_trr, e_lenl, e_lent, e_lens, e_lenr, e_abs, e_max, e_min, e_cat, e_list1, e_list2, e_tuple1, e_tuple2, e_isn, e_isnn, e_ns1, e_ns2, e_nns1, e_nns2, e_no1, e_no2, e_no3, e_no4, e_int1, e_int2, e_run, e_endn, e_endr, e_endx, e_start, e_w0, e_w1, e_frz, e_kfr, e_kfrb, e_name, e_namest, e_namesl, e_all0, e_all1, e_ktupt, e_ktupl, e_ktc, e_ktcons, e_ktnil, e_yes, e_scs, e_sc1, e_sc2, e_sc3, e_sc4, e_itl, e_itt, e_lca, e_lc, e_klc, e_l0, e_l1, e_kl1, e_kl2t, e_kl2f, e_kl3, e_lp0, e_lp1, e_klp, e_klpn, e_klpr, ok_bind, bind_exc, bind_stuck, fz_d, fz_l, fz_ll, oOf_some, noX_k, eqD_ii, neD_ii, eqD_in, neD_in, eqD_ss, gle, glt, mulL, mulR, divP, modP, rng1P, rng2P, at0, at1, at2, at3, at4, atm1a, atm1b, atm1c, atm1s, cut_tail, decide_true, decide_false, Bool.and_true, Bool.true_and, Bool.and_false, Bool.false_and, Bool.or_true, Bool.or_false, Bool.true_or, Bool.false_or, List.map_cons, List.map_nil, List.length_cons, List.length_nil, List.replicate, List.cons_append, List.nil_append, List.getElem?_cons_zero, List.getElem?_cons_succ, List.set_cons_zero, List.set_cons_succ, List.set_nil, Nat.reduceAdd, Nat.reduceSub, Nat.reduceLeDiff, Nat.reduceLT, guard_tt, ↓reduceIte, Bool.false_eq_true, Bool.not_true, Bool.not_false, Nat.zero_add, den_Signs_number_s8, hl, d1, hi, s_zero, eq_str, mkS_beq, d2, n1, e_stuck, refO]
  · have d1 : decide ((1 : Int) < (W.length : Nat)) = false := decide_eq_false (by omega)
    by_cases h2 : W = [48]
    · have d2 : decide (W = [48]) = true := decide_eq_true h2
      by_cases h3 : s < f
      · have d3 : decide ((s : Int) < (f : Int)) = true := decide_eq_true (by omega)
        rw [if_pos (Or.inr ⟨h2, h3⟩)]
        simp (maxSteps := 2000000) (disch := omega) only [e_lend, e_lend1, e_lend2, e_lend3, e_lend4, e_lend5, e_lend6, e_oixx, e_oixx1, e_oixx2, e_oixx3, e_oixx4, e_sets, e_sets0, e_sets1, e_sets2, e_sets3, e_sets4, e_sets5, e_sets6, e_appall, e_all_0, e_all_1, e_all_2, e_lclA, e_lcl, e_klcl, e_joind, e_joins, e_revrd, e_addb, e_lstb, e_klstb, e_fld, e_kfld, e_meth, e_kmeth, e_kmethb, e_make, e_mko, e_init, e_kini, e_kinib, e_kinic, e_alld0, e_alld1, e_alld2, e_starti, e_flds2, e_kf1, e_kf2, e_seq, e_seqn, e_seqr, e_if, e_dif, e_ift, e_iff, e_ret, e_kret, e_retv, e_kretv, e_retn, e_asg, e_kasg, e_asge, e_kasge, e_drop, e_kdrop, e_next, e_exc, e_muts, e_mutb, e_mut, e_kmut, e_app, e_ext, e_ins, e_setb, e_kset, e_set, e_set0, e_nx, e_unp, e_kunp, e_par, e_kpar, e_par3, e_kpar3, e_for, e_kfor, e_while, e_try, e_tryk, e_tryx, e_appb, e_kappl, e_appl, e_app0, e_llof1, e_llof2, e_m2d, e_m2c, e_m2, e_m2a, e_c, e_v, e_kv, e_own, e_kown, e_vs, e_kvs1, e_kvs2, e_kvs3, e_kix, e_oix, e_koix1, e_koix2, e_oit, e_koit1, e_koit2, e_2b, e_2, e_k2, e_1, e_k1, e_a, e_tos, e_ktos, e_anil, e_consb, e_acons, e_scons, e_kcons, e_snil, e_tup, e_ktup, e_lst, e_klst, e_slcb, e_slca, e_slc, e_kslc, e_slc1, e_slc2, e_slc3, e_ono, e_oso, e_koso, e_and, e_andt, e_andf, e_or, e_ort, e_orf, e_not, e_knot, e_andv, e_orv, e_kandv, e_korv, e_andwt, e_andwf, e_orwt, e_orwf, e_chdt, e_chdf, e_chc, e_chb, e_ch, e_kch, e_tob, e_notd, e_knotd, e_neg, e_add, e_addt, e_adds, e_sub, e_lt, e_le, e_gt, e_ge, e_ixl, e_ixt, e_ixs, e_ixr, e_trn, e_trb, e_tri, e_trl, e_trt, e_trs, e_trr, e_lenl, e_lent, e_lens, e_lenr, e_abs, e_max, e_min, e_cat, e_list1, e_list2, e_tuple1, e_tuple2, e_isn, e_isnn, e_ns1, e_ns2, e_nns1, e_nns2, e_no1, e_no2, e_no3, e_no4, e_int1, e_int2, e_run, e_endn, e_endr, e_endx, e_start, e_w0, e_w1, e_frz, e_kfr, e_kfrb, e_name, e_namest, e_namesl, e_all0, e_all1, e_ktupt, e_ktupl, e_ktc, e_ktcons, e_ktnil, e_yes, e_scs, e_sc1, e_sc2, e_sc3, e_sc4, e_itl, e_itt, e_lca, e_lc, e_klc, e_l0, e_l1, e_kl1, e_kl2t, e_kl2f, e_kl3, e_lp0, e_lp1, e_klp, e_klpn, e_klpr, ok_bind, bind_exc, bind_stuck, fz_d, fz_l, fz_ll, oOf_some, noX_k, eqD_ii, neD_ii, eqD_in, neD_in, eqD_ss, gle, glt, mulL, mulR, divP, modP, rng1P, rng2P, at0, at1, at2, at3, at4, atm1a, atm1b, atm1c, atm1s, cut_tail, decide_true, decide_false, Bool.and_true, Bool.true_and, Bool.and_false, Bool.false_and, Bool.or_true, Bool.or_false, Bool.true_or, Bool.false_or, List.map_cons, List.map_nil, List.length_cons, List.length_nil, List.replicate, List.cons_append, List.nil_append, List.getElem?_cons_zero, List.getElem?_cons_succ, List.set_cons_zero, List.set_cons_succ, List.set_nil, Nat.reduceAdd, Nat.reduceSub, Nat.reduceLeDiff, Nat.reduceLT, guard_tt, ↓reduceIte, Bool.false_eq_true, Bool.not_true, Bool.not_false, Nat.zero_add, den_Signs_number_s8, hl, d1, hi, s_zero, eq_str, mkS_beq, d2, d3, e_stuck, refO]
      · have d3 : decide ((s : Int) < (f : Int)) = false := decide_eq_false (by omega)
        rw [if_neg (by rintro (⟨z, _⟩ | ⟨_, z⟩); exact h1 z; exact h3 z)]
        simp (maxSteps := 2000000) (disch := omega) only [e_lend, e_lend1, e_lend2, e_lend3, e_lend4, e_lend5, e_lend6, e_oixx, e_oixx1, e_oixx2, e_oixx3, e_oixx4, e_sets, e_sets0, e_sets1, e_sets2, e_sets3, e_sets4, e_sets5, e_sets6, e_appall, e_all_0, e_all_1, e_all_2, e_lclA, e_lcl, e_klcl, e_joind, e_joins, e_revrd, e_addb, e_lstb, e_klstb, e_fld, e_kfld, e_meth, e_kmeth, e_kmethb, e_make, e_mko, e_init, e_kini, e_kinib, e_kinic, e_alld0, e_alld1, e_alld2, e_starti, e_flds2, e_kf1, e_kf2, e_seq, e_seqn, e_seqr, e_if, e_dif, e_ift, e_iff, e_ret, e_kret, e_retv, e_kretv, e_retn, e_asg, e_kasg, e_asge, e_kasge, e_drop, e_kdrop, e_next, e_exc, e_muts, e_mutb, e_mut, e_kmut, e_app, e_ext, e_ins, e_setb, e_kset, e_set, e_set0, e_nx, e_unp, e_kunp, e_par, e_kpar, e_par3, e_kpar3, e_for, e_kfor, e_while, e_try, e_tryk, e_tryx, e_appb, e_kappl, e_appl, e_app0, e_llof1, e_llof2, e_m2d, e_m2c, e_m2, e_m2a, e_c, e_v, e_kv, e_own, e_kown, e_vs, e_kvs1, e_kvs2, e_kvs3, e_kix, e_oix, e_koix1, e_koix2, e_oit, e_koit1, e_koit2, e_2b, e_2, e_k2, e_1, e_k1, e_a, e_tos, e_ktos, e_anil, e_consb, e_acons, e_scons, e_kcons, e_snil, e_tup, e_ktup, e_lst, e_klst, e_slcb, e_slca, e_slc, e_kslc, e_slc1, e_slc2, e_slc3, e_ono, e_oso, e_koso, e_and, e_andt, e_andf, e_or, e_ort, e_orf, e_not, e_knot, e_andv, e_orv, e_kandv, e_korv, e_andwt, e_andwf, e_orwt, e_orwf, e_chdt, e_chdf, e_chc, e_chb, e_ch, e_kch, e_tob, e_notd, e_knotd, e_neg, e_add, e_addt, e_adds, e_sub, e_lt, e_le, e_gt, e_ge, e_ixl, e_ixt, e_ixs, e_ixr, e_trn, e_trb, e_tri, e_trl, e_trt, e_trs, e_trr, e_lenl, e_lent, e_lens, e_lenr, e_abs, e_max, e_min, e_cat, e_list1, e_list2, e_tuple1, e_tuple2, e_isn, e_isnn, e_ns1, e_ns2, e_nns1, e_nns2, e_no1, e_no2, e_no3, e_no4, e_int1, e_int2, e_run, e_endn, e_endr, e_endx, e_start, e_w0, e_w1, e_frz, e_kfr, e_kfrb, e_name, e_namest, e_namesl, e_all0, e_all1, e_ktupt, e_ktupl, e_ktc, e_ktcons, e_ktnil, e_yes, e_scs, e_sc1, e_sc2, e_sc3, e_sc4, e_itl, e_itt, e_lca, e_lc, e_klc, e_l0, e_l1, e_kl1, e_kl2t, e_kl2f, e_kl3, e_lp0, e_lp1, e_klp, e_klpn, e_klpr, ok_bind, bind_exc, bind_stuck, fz_d, fz_l, fz_ll, oOf_some, noX_k, eqD_ii, neD_ii, eqD_in, neD_in, eqD_ss, gle, glt, mulL, mulR, divP, modP, rng1P, rng2P, at0, at1, at2, at3, at4, atm1a, atm1b, atm1c, atm1s, cut_tail, decide_true, decide_false, Bool.and_true, Bool.true_and, Bool.and_false, Bool.false_and, Bool.or_true, Bool.or_false, Bool.true_or, Bool.false_or, List.map_cons, List.map_nil, List.length_cons, List.length_nil, List.replicate, List.cons_append, List.nil_append, List.getElem?_cons_zero, List.getElem?_cons_succ, List.set_cons_zero, List.set_cons_succ, List.set_nil, Nat.reduceAdd, Nat.reduceSub, Nat.reduceLeDiff, Nat.reduceLT, guard_tt, ↓reduceIte, Bool.false_eq_true, Bool.not_true, Bool.not_false, Nat.zero_add, den_Signs_number_s8, hl, d1, hi, s_zero, eq_str, mkS_beq, d2, d3, e_stuck, refO]
    · rw [if_neg (by rintro (⟨z, _⟩ | ⟨z, _⟩); exact h1 z; exact h2 z)]
      simp (maxSteps := 2000000) (disch := omega) only [e_lend, e_lend1, e_lend2, e_lend3, e_lend4, e_lend5, e_lend6, e_oixx, e_oixx1, e_oixx2, e_oixx3, e_oixx4, e_sets, e_sets0, e_sets1, e_sets2, e_sets3, e_sets4, e_sets5, e_sets6, e_appall, e_all_0, e_all_1, e_all_2, e_lclA, e_lcl, e_klcl, e_joind, e_joins, e_revrd, e_addb, e_lstb, e_klstb, e_fld, e_kfld, e_meth, e_kmeth, e_kmethb, e_make, e_mko, e_init, e_kini, e_kinib, e_kinic, e_alld0, e_alld1, e_alld2, e_starti, e_flds2, e_kf1, e_kf2, e_seq, e_seqn, e_seqr, e_if, e_dif, e_ift, e_iff, e_ret, e_kret, e_retv, e_kretv, e_retn, e_asg, e_kasg, e_asge, e_kasge, e_drop, e_kdrop, e_next, e_exc, e_muts, e_mutb, e_mut, e_kmut, e_app, e_ext, e_ins, e_setb, e_kset, e_set, e_set0, e_nx, e_unp, e_kunp, e_par, e_kpar, e_par3, e_kpar3, e_for, e_kfor, e_while, e_try, e_tryk, e_tryx, e_appb, e_kappl, e_appl, e_app0, e_llof1, e_llof2, e_m2d, e_m2c, e_m2, e_m2a, e_c, e_v, e_kv, e_own, e_kown, e_vs, e_kvs1, e_kvs2, e_kvs3, e_kix, e_oix, e_koix1, e_koix2, e_oit, e_koit1, e_koit2, e_2b, e_2, e_k2, e_1, e_k1, e_a, e_tos, e_ktos, e_anil, e_consb, e_acons, e_scons, e_kcons, e_snil, e_tup, e_ktup, e_lst, e_klst, e_slcb, e_slca, e_slc, e_kslc, e_slc1, e_slc2, e_slc3, e_ono, e_oso, e_koso, e_and, e_andt, e_andf, e_or, e_ort, e_orf, e_not, e_knot, e_andv, e_orv, e_kandv, e_korv, e_andwt, e_andwf, e_orwt, e_orwf, e_chdt, e_chdf, e_chc, e_chb, e_ch, e_kch, e_tob, e_notd, e_knotd, e_neg, e_add, e_addt, e_adds, e_sub, e_lt, e_le, e_gt, e_ge, e_ixl, e_ixt, e_ixs, e_ixr, e_trn, e_trb, e_tri, e_trl, e_trt, e_trs, e_trr, e_lenl, e_lent, e_lens, e_lenr, e_abs, e_max, e_min, e_cat, e_list1, e_list2, e_tuple1, e_tuple2, e_isn, e_isnn, e_ns1, e_ns2, e_nns1, e_nns2, e_no1, e_no2, e_no3, e_no4, e_int1, e_int2, e_run, e_endn, e_endr, e_endx, e_start, e_w0, e_w1, e_frz, e_kfr, e_kfrb, e_name, e_namest, e_namesl, e_all0, e_all1, e_ktupt, e_ktupl, e_ktc, e_ktcons, e_ktnil, e_yes, e_scs, e_sc1, e_sc2, e_sc3, e_sc4, e_itl, e_itt, e_lca, e_lc, e_klc, e_l0, e_l1, e_kl1, e_kl2t, e_kl2f, e_kl3, e_lp0, e_lp1, e_klp, e_klpn, e_klpr, ok_bind, bind_exc, bind_stuck, fz_d, fz_l, fz_ll, oOf_some, noX_k, eqD_ii, neD_ii, eqD_in, neD_in, eqD_ss, gle, glt, mulL, mulR, divP, modP, rng1P, rng2P, at0, at1, at2, at3, at4, atm1a, atm1b, atm1c, atm1s, cut_tail, decide_true, decide_false, Bool.and_true, Bool.true_and, Bool.and_false, Bool.false_and, Bool.or_true, Bool.or_false, Bool.true_or, Bool.false_or, List.map_cons, List.map_nil, List.length_cons, List.length_nil, List.replicate, List.cons_append, List.nil_append, List.getElem?_cons_zero, List.getElem?_cons_succ, List.set_cons_zero, List.set_cons_succ, List.set_nil, Nat.reduceAdd, Nat.reduceSub, Nat.reduceLeDiff, Nat.reduceLT, guard_tt, ↓reduceIte, Bool.false_eq_true, Bool.not_true, Bool.not_false, Nat.zero_add, den_Signs_number_s8, hl, d1, hi, s_zero, eq_str, mkS_beq, h2, e_stuck, refO]
theorem num_s9 (T : List Nat) (a s f : Nat) (w : List Nat) (h0 : w ≠ []) (hf : ∀ c ∈ w, isFig c = true) (hw : w.length ≤ 50000) : den_Signs_number_s9 [some (.m "Signs" (signs T a)), some (.d (.int s)), some (.d (.int f)), some (.d (.str (mkS w)))] = if 6 < w.length ∨ 100000 < NumText.digitsVal w then refO s else .ok (.next [some (.m "Signs" (signs T a)), some (.d (.int s)), some (.d (.int f)), some (.d (.str (mkS w)))]) := by
  have hl := len_str w (by omega)
  by_cases h1 : 6 < w.length
  · have d1 : decide ((6 : Int) < (w.length : Nat)) = true := decide_eq_true (by omega)
    rw [if_pos (Or.inl h1)]
    simp (maxSteps := 2000000) (disch := omega) only [e_lend, e_lend1, e_lend2, e_lend3, e_lend4, e_lend5, e_lend6, e_oixx, e_oixx1, e_oixx2, e_oixx3, e_oixx4, e_sets, e_sets0, e_sets1, e_sets2, e_sets3, e_sets4, e_sets5, e_sets6, e_appall, e_all_0, e_all_1, e_all_2, e_lclA, e_lcl, e_klcl, e_joind, e_joins, e_revrd, e_addb, e_lstb, e_klstb, e_fld, e_kfld, e_meth, e_kmeth, e_kmethb, e_make, e_mko, e_init, e_kini, e_kinib, e_kinic, e_alld0, e_alld1, e_alld2, e_starti, e_flds2, e_kf1, e_kf2, e_seq, e_seqn, e_seqr, e_if, e_dif, e_ift, e_iff, e_ret, e_kret, e_retv, e_kretv, e_retn, e_asg, e_kasg, e_asge, e_kasge, e_drop, e_kdrop, e_next, e_exc, e_muts, e_mutb, e_mut, e_kmut, e_app, e_ext, e_ins, e_setb, e_kset, e_set, e_set0, e_nx, e_unp, e_kunp, e_par, e_kpar, e_par3, e_kpar3, e_for, e_kfor, e_while, e_try, e_tryk, e_tryx, e_appb, e_kappl, e_appl, e_app0, e_llof1, e_llof2, e_m2d, e_m2c, e_m2, e_m2a, e_c, e_v, e_kv, e_own, e_kown, e_vs, e_kvs1, e_kvs2, e_kvs3, e_kix, e_oix, e_koix1, e_koix2, e_oit, e_koit1, e_koit2, e_2b, e_2, e_k2, e_1, e_k1, e_a, e_tos, e_ktos, e_anil, e_consb, e_acons, e_scons, e_kcons, e_snil, e_tup, e_ktup, e_lst, e_klst, e_slcb, e_slca, e_slc, e_kslc, e_slc1, e_slc2, e_slc3, e_ono, e_oso, e_koso, e_and, e_andt, e_andf, e_or, e_ort, e_orf, e_not, e_knot, e_andv, e_orv, e_kandv, e_korv, e_andwt, e_andwf, e_orwt, e_orwf, e_chdt, e_chdf, e_chc, e_chb, e_ch, e_kch, e_tob, e_notd, e_knotd, e_neg, e_add, e_addt, e_adds, e_sub, e_lt, e_le, e_gt, e_ge, e_ixl, e_ixt, e_ixs, e_ixr, e_trn, e_trb, e_tri, e_trl, e_trt, e_trs, e_trr, e_lenl, e_lent, e_lens, e_lenr, e_abs, e_max, e_min, e_cat, e_list1, e_list2, e_tuple1, e_tuple2, e_isn, e_isnn, e_ns1, e_ns2, e_nns1, e_nns2, e_no1, e_no2, e_no3, e_no4, e_int1, e_int2, e_run, e_endn, e_endr, e_endx, e_start, e_w0, e_w1, e_frz, e_kfr, e_kfrb, e_name, e_namest, e_namesl, e_all0, e_all1, e_ktupt, e_ktupl, e_ktc, e_ktcons, e_ktnil, e_yes, e_scs, e_sc1, e_sc2, e_sc3, e_sc4, e_itl, e_itt, e_lca, e_lc, e_klc, e_l0, e_l1, e_kl1, e_kl2t, e_kl2f, e_kl3, e_lp0, e_lp1, e_klp, e_klpn, e_klpr, ok_bind, bind_exc, bind_stuck, fz_d, fz_l, fz_ll, oOf_some, noX_k, eqD_ii, neD_ii, eqD_in, neD_in, eqD_ss, gle, glt, mulL, mulR, divP, modP, rng1P, rng2P, at0, at1, at2, at3, at4, atm1a, atm1b, atm1c, atm1s, cut_tail, decide_true, decide_false, Bool.and_true, Bool.true_and, Bool.and_false, Bool.false_and, Bool.or_true, Bool.or_false, Bool.true_or, Bool.false_or, List.map_cons, List.map_nil, List.length_cons, List.length_nil, List.replicate, List.cons_append, List.nil_append, List.getElem?_cons_zero, List.getElem?_cons_succ, List.set_cons_zero, List.set_cons_succ, List.set_nil, Nat.reduceAdd, Nat.reduceSub, Nat.reduceLeDiff, Nat.reduceLT, guard_tt, ↓reduceIte, Bool.false_eq_true, Bool.not_true, Bool.not_false, Nat.zero_add, den_Signs_number_s9, hl, d1, e_stuck, refO]
  · have d1 : decide ((6 : Int) < (w.length : Nat)) = false := decide_eq_false (by omega)
    have hi := int_fig hf h0 (by omega)
    by_cases h2 : 100000 < NumText.digitsVal w
    · have d2 : decide ((100000 : Int) < (NumText.digitsVal w : Nat)) = true := decide_eq_true (by omega)
      rw [if_pos (Or.inr h2)]
      simp (maxSteps := 2000000) (disch := omega) only [e_lend, e_lend1, e_lend2, e_lend3, e_lend4, e_lend5, e_lend6, e_oixx, e_oixx1, e_oixx2, e_oixx3, e_oixx4, e_sets, e_sets0, e_sets1, e_sets2, e_sets3, e_sets4, e_sets5, e_sets6, e_appall, e_all_0, e_all_1, e_all_2, e_lclA, e_lcl, e_klcl, e_joind, e_joins, e_revrd, e_addb, e_lstb, e_klstb, e_fld, e_kfld, e_meth, e_kmeth, e_kmethb, e_make, e_mko, e_init, e_kini, e_kinib, e_kinic, e_alld0, e_alld1, e_alld2, e_starti, e_flds2, e_kf1, e_kf2, e_seq, e_seqn, e_seqr, e_if, e_dif, e_ift, e_iff, e_ret, e_kret, e_retv, e_kretv, e_retn, e_asg, e_kasg, e_asge, e_kasge, e_drop, e_kdrop, e_next, e_exc, e_muts, e_mutb, e_mut, e_kmut, e_app, e_ext, e_ins, e_setb, e_kset, e_set, e_set0, e_nx, e_unp, e_kunp, e_par, e_kpar, e_par3, e_kpar3, e_for, e_kfor, e_while, e_try, e_tryk, e_tryx, e_appb, e_kappl, e_appl, e_app0, e_llof1, e_llof2, e_m2d, e_m2c, e_m2, e_m2a, e_c, e_v, e_kv, e_own, e_kown, e_vs, e_kvs1, e_kvs2, e_kvs3, e_kix, e_oix, e_koix1, e_koix2, e_oit, e_koit1, e_koit2, e_2b, e_2, e_k2, e_1, e_k1, e_a, e_tos, e_ktos, e_anil, e_consb, e_acons, e_scons, e_kcons, e_snil, e_tup, e_ktup, e_lst, e_klst, e_slcb, e_slca, e_slc, e_kslc, e_slc1, e_slc2, e_slc3, e_ono, e_oso, e_koso, e_and, e_andt, e_andf, e_or, e_ort, e_orf, e_not, e_knot, e_andv, e_orv, e_kandv, e_korv, e_andwt, e_andwf, e_orwt, e_orwf, e_chdt, e_chdf, e_chc, e_chb, e_ch, e_kch, e_tob, e_notd, e_knotd, e_neg, e_add, e_addt, e_adds, e_sub, e_lt, e_le, e_gt, e_ge, e_ixl, e_ixt, e_ixs, e_ixr, e_trn, e_trb, e_tri, e_trl, e_trt, e_trs, e_trr, e_lenl, e_lent, e_lens, e_lenr, e_abs, e_max, e_min, e_cat, e_list1, e_list2, e_tuple1, e_tuple2, e_isn, e_isnn, e_ns1, e_ns2, e_nns1, e_nns2, e_no1, e_no2, e_no3, e_no4, e_int1, e_int2, e_run, e_endn, e_endr, e_endx, e_start, e_w0, e_w1, e_frz, e_kfr, e_kfrb, e_name, e_namest, e_namesl, e_all0, e_all1, e_ktupt, e_ktupl, e_ktc, e_ktcons, e_ktnil, e_yes, e_scs, e_sc1, e_sc2, e_sc3, e_sc4, e_itl, e_itt, e_lca, e_lc, e_klc, e_l0, e_l1, e_kl1, e_kl2t, e_kl2f, e_kl3, e_lp0, e_lp1, e_klp, e_klpn, e_klpr, ok_bind, bind_exc, bind_stuck, fz_d, fz_l, fz_ll, oOf_some, noX_k, eqD_ii, neD_ii, eqD_in, neD_in, eqD_ss, gle, glt, mulL, mulR, divP, modP, rng1P, rng2P, at0, at1, at2, at3, at4, atm1a, atm1b, atm1c, atm1s, cut_tail, decide_true, decide_false, Bool.and_true, Bool.true_and, Bool.and_false, Bool.false_and, Bool.or_true, Bool.or_false, Bool.true_or, Bool.false_or, List.map_cons, List.map_nil, List.length_cons, List.length_nil, List.replicate, List.cons_append, List.nil_append, List.getElem?_cons_zero, List.getElem?_cons_succ, List.set_cons_zero, List.set_cons_succ, List.set_nil, Nat.reduceAdd, Nat.reduceSub, Nat.reduceLeDiff, Nat.reduceLT, guard_tt, ↓reduceIte, Bool.false_eq_true, Bool.not_true, Bool.not_false, Nat.zero_add, den_Signs_number_s9, hl, d1, hi, d2, e_stuck, refO]
    · have d2 : decide ((100000 : Int) < (NumText.digitsVal w : Nat)) = false := decide_eq_false (by omega)
      rw [if_neg (by omega)]
      simp (maxSteps := 2000000) (disch := omega) only [e_lend, e_lend1, e_lend2, e_lend3, e_lend4, e_lend5, e_lend6, e_oixx, e_oixx1, e_oixx2, e_oixx3, e_oixx4, e_sets, e_sets0, e_sets1, e_sets2, e_sets3, e_sets4, e_sets5, e_sets6, e_appall, e_all_0, e_all_1, e_all_2, e_lclA, e_lcl, e_klcl, e_joind, e_joins, e_revrd, e_addb, e_lstb, e_klstb, e_fld, e_kfld, e_meth, e_kmeth, e_kmethb, e_make, e_mko, e_init, e_kini, e_kinib, e_kinic, e_alld0, e_alld1, e_alld2, e_starti, e_flds2, e_kf1, e_kf2, e_seq, e_seqn, e_seqr, e_if, e_dif, e_ift, e_iff, e_ret, e_kret, e_retv, e_kretv, e_retn, e_asg, e_kasg, e_asge, e_kasge, e_drop, e_kdrop, e_next, e_exc, e_muts, e_mutb, e_mut, e_kmut, e_app, e_ext, e_ins, e_setb, e_kset, e_set, e_set0, e_nx, e_unp, e_kunp, e_par, e_kpar, e_par3, e_kpar3, e_for, e_kfor, e_while, e_try, e_tryk, e_tryx, e_appb, e_kappl, e_appl, e_app0, e_llof1, e_llof2, e_m2d, e_m2c, e_m2, e_m2a, e_c, e_v, e_kv, e_own, e_kown, e_vs, e_kvs1, e_kvs2, e_kvs3, e_kix, e_oix, e_koix1, e_koix2, e_oit, e_koit1, e_koit2, e_2b, e_2, e_k2, e_1, e_k1, e_a, e_tos, e_ktos, e_anil, e_consb, e_acons, e_scons, e_kcons, e_snil, e_tup, e_ktup, e_lst, e_klst, e_slcb, e_slca, e_slc, e_kslc, e_slc1, e_slc2, e_slc3, e_ono, e_oso, e_koso, e_and, e_andt, e_andf, e_or, e_ort, e_orf, e_not, e_knot, e_andv, e_orv, e_kandv, e_korv, e_andwt, e_andwf, e_orwt, e_orwf, e_chdt, e_chdf, e_chc, e_chb, e_ch, e_kch, e_tob, e_notd, e_knotd, e_neg, e_add, e_addt, e_adds, e_sub, e_lt, e_le, e_gt, e_ge, e_ixl, e_ixt, e_ixs, e_ixr, e_trn, e_trb, e_tri, e_trl, e_trt, e_trs, e_trr, e_lenl, e_lent, e_lens, e_lenr, e_abs, e_max, e_min, e_cat, e_list1, e_list2, e_tuple1, e_tuple2, e_isn, e_isnn, e_ns1, e_ns2, e_nns1, e_nns2, e_no1, e_no2, e_no3, e_no4, e_int1, e_int2, e_run, e_endn, e_endr, e_endx, e_start, e_w0, e_w1, e_frz, e_kfr, e_kfrb, e_name, e_namest, e_namesl, e_all0, e_all1, e_ktupt, e_ktupl, e_ktc, e_ktcons, e_ktnil, e_yes, e_scs, e_sc1, e_sc2, e_sc3, e_sc4, e_itl, e_itt, e_lca, e_lc, e_klc, e_l0, e_l1, e_kl1, e_kl2t, e_kl2f, e_kl3, e_lp0, e_lp1, e_klp, e_klpn, e_klpr, ok_bind, bind_exc, bind_stuck, fz_d, fz_l, fz_ll, oOf_some, noX_k, eqD_ii, neD_ii, eqD_in, neD_in, eqD_ss, gle, glt, mulL, mulR, divP, modP, rng1P, rng2P, at0, at1, at2, at3, at4, atm1a, atm1b, atm1c, atm1s, cut_tail, decide_true, decide_false, Bool.and_true, Bool.true_and, Bool.and_false, Bool.false_and, Bool.or_true, Bool.or_false, Bool.true_or, Bool.false_or, List.map_cons, List.map_nil, List.length_cons, List.length_nil, List.replicate, List.cons_append, List.nil_append, List.getElem?_cons_zero, List.getElem?_cons_succ, List.set_cons_zero, List.set_cons_succ, List.set_nil, Nat.reduceAdd, Nat.reduceSub, Nat.reduceLeDiff, Nat.reduceLT, guard_tt, ↓reduceIte, Bool.false_eq_true, Bool.not_true, Bool.not_false, Nat.zero_add, den_Signs_number_s9, hl, d1, hi, d2, e_stuck, refO]
theorem refO_bind {α β : Type} (p : Nat) (f : α → Out β) : (refO p : Out α).bind f = refO p := (rfl)
/-- from the place of the first figure on -/
theorem num_t4 (T : List Nat) (a : Nat) (m : Bool) (f : Nat) (h : T.length ≤ 50000) (hf : f = a + 1 + (if m = true then 1 else 0)) (hs : (T.drop (a + 1)).take 1 = [45] ↔ m = true) :
    (den_Signs_number_t4 [some (.m "Signs" (signs T f)), some (.d (.int ((a + 1 : Nat) : Int))), none, none]).bind (kRunM0 "Signs") = numO T a (rdW (f - a) m ((T.drop f).takeWhile isFig)) := by
  have hT : T.length ≤ 1000000 := by omega
  have fw := figs_walk T f h (some (.d (.int ((a + 1 : Nat) : Int)))) (some (.d (.int (f : Int)))) none
  have hsl := slc_str T f (f + ((T.drop f).takeWhile isFig).length) hT
  rw [slc_word] at hsl
  have hall : ∀ c ∈ (T.drop f).takeWhile isFig, isFig c = true := tw_all
  have hlen : ((T.drop f).takeWhile isFig).length ≤ 50000 := by
    have := (List.takeWhile_prefix (p := isFig) (l := T.drop f)).length_le
    rw [List.length_drop] at this; omega
  have hsl2 : slcS (.str (mkS T)) (some ((a + 1 : Nat) : Int)) (some ((f + ((T.drop f).takeWhile isFig).length : Nat) : Int)) = .ok (.d (.str (mkS (if m = true then 45 :: (T.drop f).takeWhile isFig else (T.drop f).takeWhile isFig)))) := by
    rw [slc_str T (a + 1) _ hT]
    congr 4
    cases m with
    | false =>
      have : f = a + 1 := by simpa using hf
      subst this
      rw [slc_word]; rfl
    | true =>
      have : f = a + 2 := by simpa using hf
      subst this
      have hd := drop_cons (T := T) (a := a + 1) (c := 45) (hs.mpr rfl)
      rw [hd, show a + 2 + ((T.drop (a + 2)).takeWhile isFig).length - (a + 1) = ((T.drop (a + 2)).takeWhile isFig).length + 1 by omega, List.take_succ_cons, tw_take]; rfl
  generalize hw : (T.drop f).takeWhile isFig = w at *
  have e7 := num_s7 T (f + w.length) (a + 1) f w
  have e8 := num_s8 T (f + w.length) (a + 1) f w
  have e9 := num_s9 T (f + w.length) (a + 1) f w
  have x4 : den_Signs_number_t4 [some (.m "Signs" (signs T f)), some (.d (.int ((a + 1 : Nat) : Int))), none, none] = den_Signs_number_t7 [some (.m "Signs" (signs T (f + w.length))), some (.d (.int ((a + 1 : Nat) : Int))), some (.d (.int (f : Int))), some (.d (.str (mkS w)))] := by
    simp (maxSteps := 2000000) (disch := omega) only [e_lend, e_lend1, e_lend2, e_lend3, e_lend4, e_lend5, e_lend6, e_oixx, e_oixx1, e_oixx2, e_oixx3, e_oixx4, e_sets, e_sets0, e_sets1, e_sets2, e_sets3, e_sets4, e_sets5, e_sets6, e_appall, e_all_0, e_all_1, e_all_2, e_lclA, e_lcl, e_klcl, e_joind, e_joins, e_revrd, e_addb, e_lstb, e_klstb, e_fld, e_kfld, e_meth, e_kmeth, e_kmethb, e_make, e_mko, e_init, e_kini, e_kinib, e_kinic, e_alld0, e_alld1, e_alld2, e_starti, e_flds2, e_kf1, e_kf2, e_seq, e_seqn, e_seqr, e_if, e_dif, e_ift, e_iff, e_ret, e_kret, e_retv, e_kretv, e_retn, e_asg, e_kasg, e_asge, e_kasge, e_drop, e_kdrop, e_next, e_exc, e_muts, e_mutb, e_mut, e_kmut, e_app, e_ext, e_ins, e_setb, e_kset, e_set, e_set0, e_nx, e_unp, e_kunp, e_par, e_kpar, e_par3, e_kpar3, e_for, e_kfor, e_while, e_try, e_tryk, e_tryx, e_appb, e_kappl, e_appl, e_app0, e_llof1, e_llof2, e_m2d, e_m2c, e_m2, e_m2a, e_c, e_v, e_kv, e_own, e_kown, e_vs, e_kvs1, e_kvs2, e_kvs3, e_kix, e_oix, e_koix1, e_koix2, e_oit, e_koit1, e_koit2, e_2b, e_2, e_k2, e_1, e_k1, e_a, e_tos, e_ktos, e_anil, e_consb, e_acons, e_scons, e_kcons, e_snil, e_tup, e_ktup, e_lst, e_klst, e_slcb, e_slca, e_slc, e_kslc, e_slc1, e_slc2, e_slc3, e_ono, e_oso, e_koso, e_and, e_andt, e_andf, e_or, e_ort, e_orf, e_not, e_knot, e_andv, e_orv, e_kandv, e_korv, e_andwt, e_andwf, e_orwt, e_orwf, e_chdt, e_chdf, e_chc, e_chb, e_ch, e_kch, e_tob, e_notd, e_knotd, e_neg, e_add, e_addt, e_adds, e_sub, e_lt, e_le, e_gt, e_ge, e_ixl, e_ixt, e_ixs, e_ixr, e_trn, e_trb, e_tri, e_trl, e_trt, e_trs, e_trr, e_lenl, e_lent, e_lens, e_lenr, e_abs, e_max, e_min, e_cat, e_list1, e_list2, e_tuple1, e_tuple2, e_isn, e_isnn, e_ns1, e_ns2, e_nns1, e_nns2, e_no1, e_no2, e_no3, e_no4, e_int1, e_int2, e_run, e_endn, e_endr, e_endx, e_start, e_w0, e_w1, e_frz, e_kfr, e_kfrb, e_name, e_namest, e_namesl, e_all0, e_all1, e_ktupt, e_ktupl, e_ktc, e_ktcons, e_ktnil, e_yes, e_scs, e_sc1, e_sc2, e_sc3, e_sc4, e_itl, e_itt, e_lca, e_lc, e_klc, e_l0, e_l1, e_kl1, e_kl2t, e_kl2f, e_kl3, e_lp0, e_lp1, e_klp, e_klpn, e_klpr, ok_bind, bind_exc, bind_stuck, fz_d, fz_l, fz_ll, oOf_some, noX_k, eqD_ii, neD_ii, eqD_in, neD_in, eqD_ss, gle, glt, mulL, mulR, divP, modP, rng1P, rng2P, at0, at1, at2, at3, at4, atm1a, atm1b, atm1c, atm1s, cut_tail, decide_true, decide_false, Bool.and_true, Bool.true_and, Bool.and_false, Bool.false_and, Bool.or_true, Bool.or_false, Bool.true_or, Bool.false_or, List.map_cons, List.map_nil, List.length_cons, List.length_nil, List.replicate, List.cons_append, List.nil_append, List.getElem?_cons_zero, List.getElem?_cons_succ, List.set_cons_zero, List.set_cons_succ, List.set_nil, Nat.reduceAdd, Nat.reduceSub, Nat.reduceLeDiff, Nat.reduceLT, guard_tt, ↓reduceIte, Bool.false_eq_true, Bool.not_true, Bool.not_false, Nat.zero_add, den_Signs_number_t4, den_Signs_number_s4, den_Signs_number_t5, den_Signs_number_s5, den_Signs_number_t6, den_Signs_number_s6, e_rseq, e_krseq, e_fldm, fld_at, fld_text, fw, hsl]
  rw [x4]
  unfold rdW
  by_cases h0 : w = []
  · rw [if_pos h0]
    rw [if_pos h0] at e7
    simp (maxSteps := 2000000) (disch := omega) only [e_lend, e_lend1, e_lend2, e_lend3, e_lend4, e_lend5, e_lend6, e_oixx, e_oixx1, e_oixx2, e_oixx3, e_oixx4, e_sets, e_sets0, e_sets1, e_sets2, e_sets3, e_sets4, e_sets5, e_sets6, e_appall, e_all_0, e_all_1, e_all_2, e_lclA, e_lcl, e_klcl, e_joind, e_joins, e_revrd, e_addb, e_lstb, e_klstb, e_fld, e_kfld, e_meth, e_kmeth, e_kmethb, e_make, e_mko, e_init, e_kini, e_kinib, e_kinic, e_alld0, e_alld1, e_alld2, e_starti, e_flds2, e_kf1, e_kf2, e_seq, e_seqn, e_seqr, e_if, e_dif, e_ift, e_iff, e_ret, e_kret, e_retv, e_kretv, e_retn, e_asg, e_kasg, e_asge, e_kasge, e_drop, e_kdrop, e_next, e_exc, e_muts, e_mutb, e_mut, e_kmut, e_app, e_ext, e_ins, e_setb, e_kset, e_set, e_set0, e_nx, e_unp, e_kunp, e_par, e_kpar, e_par3, e_kpar3, e_for, e_kfor, e_while, e_try, e_tryk, e_tryx, e_appb, e_kappl, e_appl, e_app0, e_llof1, e_llof2, e_m2d, e_m2c, e_m2, e_m2a, e_c, e_v, e_kv, e_own, e_kown, e_vs, e_kvs1, e_kvs2, e_kvs3, e_kix, e_oix, e_koix1, e_koix2, e_oit, e_koit1, e_koit2, e_2b, e_2, e_k2, e_1, e_k1, e_a, e_tos, e_ktos, e_anil, e_consb, e_acons, e_scons, e_kcons, e_snil, e_tup, e_ktup, e_lst, e_klst, e_slcb, e_slca, e_slc, e_kslc, e_slc1, e_slc2, e_slc3, e_ono, e_oso, e_koso, e_and, e_andt, e_andf, e_or, e_ort, e_orf, e_not, e_knot, e_andv, e_orv, e_kandv, e_korv, e_andwt, e_andwf, e_orwt, e_orwf, e_chdt, e_chdf, e_chc, e_chb, e_ch, e_kch, e_tob, e_notd, e_knotd, e_neg, e_add, e_addt, e_adds, e_sub, e_lt, e_le, e_gt, e_ge, e_ixl, e_ixt, e_ixs, e_ixr, e_trn, e_trb, e_tri, e_trl, e_trt, e_trs, e_trr, e_lenl, e_lent, e_lens, e_lenr, e_abs, e_max, e_min, e_cat, e_list1, e_list2, e_tuple1, e_tuple2, e_isn, e_isnn, e_ns1, e_ns2, e_nns1, e_nns2, e_no1, e_no2, e_no3, e_no4, e_int1, e_int2, e_run, e_endn, e_endr, e_endx, e_start, e_w0, e_w1, e_frz, e_kfr, e_kfrb, e_name, e_namest, e_namesl, e_all0, e_all1, e_ktupt, e_ktupl, e_ktc, e_ktcons, e_ktnil, e_yes, e_scs, e_sc1, e_sc2, e_sc3, e_sc4, e_itl, e_itt, e_lca, e_lc, e_klc, e_l0, e_l1, e_kl1, e_kl2t, e_kl2f, e_kl3, e_lp0, e_lp1, e_klp, e_klpn, e_klpr, ok_bind, bind_exc, bind_stuck, fz_d, fz_l, fz_ll, oOf_some, noX_k, eqD_ii, neD_ii, eqD_in, neD_in, eqD_ss, gle, glt, mulL, mulR, divP, modP, rng1P, rng2P, at0, at1, at2, at3, at4, atm1a, atm1b, atm1c, atm1s, cut_tail, decide_true, decide_false, Bool.and_true, Bool.true_and, Bool.and_false, Bool.false_and, Bool.or_true, Bool.or_false, Bool.true_or, Bool.false_or, List.map_cons, List.map_nil, List.length_cons, List.length_nil, List.replicate, List.cons_append, List.nil_append, List.getElem?_cons_zero, List.getElem?_cons_succ, List.set_cons_zero, List.set_cons_succ, List.set_nil, Nat.reduceAdd, Nat.reduceSub, Nat.reduceLeDiff, Nat.reduceLT, guard_tt, ↓reduceIte, Bool.false_eq_true, Bool.not_true, Bool.not_false, Nat.zero_add, den_Signs_number_t7, e_rseq, e7, refO_bind, numO]
    rw [h0, List.length_nil, show f + 0 = a + (f - a) by omega]
  · rw [if_neg h0] at e7 ⊢
    have e8 := e8 h0 (by omega)
    have e9 := e9 h0 hall (by omega)
    have hc : ((1 < w.length ∧ w[0]? = some 48) ∨ (w = [48] ∧ a + 1 < f)) ↔ ((1 < w.length ∧ w[0]? = some 48) ∨ (w = [48] ∧ m = true)) := by
      have : a + 1 < f ↔ m = true := by
        cases m with
        | true => simp at hf; simp; omega
        | false => simp at hf; simp; omega
      rw [this]
    by_cases h1 : (1 < w.length ∧ w[0]? = some 48) ∨ (w = [48] ∧ m = true)
    · rw [if_pos (hc.mpr h1)] at e8
      rw [if_pos h1]
      simp (maxSteps := 2000000) (disch := omega) only [e_lend, e_lend1, e_lend2, e_lend3, e_lend4, e_lend5, e_lend6, e_oixx, e_oixx1, e_oixx2, e_oixx3, e_oixx4, e_sets, e_sets0, e_sets1, e_sets2, e_sets3, e_sets4, e_sets5, e_sets6, e_appall, e_all_0, e_all_1, e_all_2, e_lclA, e_lcl, e_klcl, e_joind, e_joins, e_revrd, e_addb, e_lstb, e_klstb, e_fld, e_kfld, e_meth, e_kmeth, e_kmethb, e_make, e_mko, e_init, e_kini, e_kinib, e_kinic, e_alld0, e_alld1, e_alld2, e_starti, e_flds2, e_kf1, e_kf2, e_seq, e_seqn, e_seqr, e_if, e_dif, e_ift, e_iff, e_ret, e_kret, e_retv, e_kretv, e_retn, e_asg, e_kasg, e_asge, e_kasge, e_drop, e_kdrop, e_next, e_exc, e_muts, e_mutb, e_mut, e_kmut, e_app, e_ext, e_ins, e_setb, e_kset, e_set, e_set0, e_nx, e_unp, e_kunp, e_par, e_kpar, e_par3, e_kpar3, e_for, e_kfor, e_while, e_try, e_tryk, e_tryx, e_appb, e_kappl, e_appl, e_app0, e_llof1, e_llof2, e_m2d, e_m2c, e_m2, e_m2a, e_c, e_v, e_kv, e_own, e_kown, e_vs, e_kvs1, e_kvs2, e_kvs3, e_kix, e_oix, e_koix1, e_koix2, e_oit, e_koit1, e_koit2, e_2b, e_2, e_k2, e_1, e_k1, e_a, e_tos, e_ktos, e_anil, e_consb, e_acons, e_scons, e_kcons, e_snil, e_tup, e_ktup, e_lst, e_klst, e_slcb, e_slca, e_slc, e_kslc, e_slc1, e_slc2, e_slc3, e_ono, e_oso, e_koso, e_and, e_andt, e_andf, e_or, e_ort, e_orf, e_not, e_knot, e_andv, e_orv, e_kandv, e_korv, e_andwt, e_andwf, e_orwt, e_orwf, e_chdt, e_chdf, e_chc, e_chb, e_ch, e_kch, e_tob, e_notd, e_knotd, e_neg, e_add, e_addt, e_adds, e_sub, e_lt, e_le, e_gt, e_ge, e_ixl, e_ixt, e_ixs, e_ixr, e_trn, e_trb, e_tri, e_trl, e_trt, e_trs, e_trr, e_lenl, e_lent, e_lens, e_lenr, e_abs, e_max, e_min, e_cat, e_list1, e_list2, e_tuple1, e_tuple2, e_isn, e_isnn, e_ns1, e_ns2, e_nns1, e_nns2, e_no1, e_no2, e_no3, e_no4, e_int1, e_int2, e_run, e_endn, e_endr, e_endx, e_start, e_w0, e_w1, e_frz, e_kfr, e_kfrb, e_name, e_namest, e_namesl, e_all0, e_all1, e_ktupt, e_ktupl, e_ktc, e_ktcons, e_ktnil, e_yes, e_scs, e_sc1, e_sc2, e_sc3, e_sc4, e_itl, e_itt, e_lca, e_lc, e_klc, e_l0, e_l1, e_kl1, e_kl2t, e_kl2f, e_kl3, e_lp0, e_lp1, e_klp, e_klpn, e_klpr, ok_bind, bind_exc, bind_stuck, fz_d, fz_l, fz_ll, oOf_some, noX_k, eqD_ii, neD_ii, eqD_in, neD_in, eqD_ss, gle, glt, mulL, mulR, divP, modP, rng1P, rng2P, at0, at1, at2, at3, at4, atm1a, atm1b, atm1c, atm1s, cut_tail, decide_true, decide_false, Bool.and_true, Bool.true_and, Bool.and_false, Bool.false_and, Bool.or_true, Bool.or_false, Bool.true_or, Bool.false_or, List.map_cons, List.map_nil, List.length_cons, List.length_nil, List.replicate, List.cons_append, List.nil_append, List.getElem?_cons_zero, List.getElem?_cons_succ, List.set_cons_zero, List.set_cons_succ, List.set_nil, Nat.reduceAdd, Nat.reduceSub, Nat.reduceLeDiff, Nat.reduceLT, guard_tt, ↓reduceIte, Bool.false_eq_true, Bool.not_true, Bool.not_false, Nat.zero_add, den_Signs_number_t7, den_Signs_number_t8, e_rseq, e_krseq, e7, e8, refO_bind, numO]
    · rw [if_neg fun z => h1 (hc.mp z)] at e8
      rw [if_neg h1]
      by_cases h2 : 6 < w.length ∨ 100000 < NumText.digitsVal w
      · rw [if_pos h2] at e9 ⊢
        simp (maxSteps := 2000000) (disch := omega) only [e_lend, e_lend1, e_lend2, e_lend3, e_lend4, e_lend5, e_lend6, e_oixx, e_oixx1, e_oixx2, e_oixx3, e_oixx4, e_sets, e_sets0, e_sets1, e_sets2, e_sets3, e_sets4, e_sets5, e_sets6, e_appall, e_all_0, e_all_1, e_all_2, e_lclA, e_lcl, e_klcl, e_joind, e_joins, e_revrd, e_addb, e_lstb, e_klstb, e_fld, e_kfld, e_meth, e_kmeth, e_kmethb, e_make, e_mko, e_init, e_kini, e_kinib, e_kinic, e_alld0, e_alld1, e_alld2, e_starti, e_flds2, e_kf1, e_kf2, e_seq, e_seqn, e_seqr, e_if, e_dif, e_ift, e_iff, e_ret, e_kret, e_retv, e_kretv, e_retn, e_asg, e_kasg, e_asge, e_kasge, e_drop, e_kdrop, e_next, e_exc, e_muts, e_mutb, e_mut, e_kmut, e_app, e_ext, e_ins, e_setb, e_kset, e_set, e_set0, e_nx, e_unp, e_kunp, e_par, e_kpar, e_par3, e_kpar3, e_for, e_kfor, e_while, e_try, e_tryk, e_tryx, e_appb, e_kappl, e_appl, e_app0, e_llof1, e_llof2, e_m2d, e_m2c, e_m2, e_m2a, e_c, e_v, e_kv, e_own, e_kown, e_vs, e_kvs1, e_kvs2, e_kvs3, e_kix, e_oix, e_koix1, e_koix2, e_oit, e_koit1, e_koit2, e_2b, e_2, e_k2, e_1, e_k1, e_a, e_tos, e_ktos, e_anil, e_consb, e_acons, e_scons, e_kcons, e_snil, e_tup, e_ktup, e_lst, e_klst, e_slcb, e_slca, e_slc, e_kslc, e_slc1, e_slc2, e_slc3, e_ono, e_oso, e_koso, e_and, e_andt, e_andf, e_or, e_ort, e_orf, e_not, e_knot, e_andv, e_orv, e_kandv, e_korv, e_andwt, e_andwf, e_orwt, e_orwf, e_chdt, e_chdf, e_chc, e_chb, e_ch, e_kch, e_tob, e_notd, e_knotd, e_neg, e_add, e_addt, e_adds, e_sub, e_lt, e_le, e_gt, e_ge, e_ixl, e_ixt, e_ixs, e_ixr, e_trn, e_trb, e_tri, e_trl, e_trt, e_trs, e_trr, e_lenl, e_lent, e_lens, e_lenr, e_abs, e_max, e_min, e_cat, e_list1, e_list2, e_tuple1, e_tuple2, e_isn, e_isnn, e_ns1, e_ns2, e_nns1, e_nns2, e_no1, e_no2, e_no3, e_no4, e_int1, e_int2, e_run, e_endn, e_endr, e_endx, e_start, e_w0, e_w1, e_frz, e_kfr, e_kfrb, e_name, e_namest, e_namesl, e_all0, e_all1, e_ktupt, e_ktupl, e_ktc, e_ktcons, e_ktnil, e_yes, e_scs, e_sc1, e_sc2, e_sc3, e_sc4, e_itl, e_itt, e_lca, e_lc, e_klc, e_l0, e_l1, e_kl1, e_kl2t, e_kl2f, e_kl3, e_lp0, e_lp1, e_klp, e_klpn, e_klpr, ok_bind, bind_exc, bind_stuck, fz_d, fz_l, fz_ll, oOf_some, noX_k, eqD_ii, neD_ii, eqD_in, neD_in, eqD_ss, gle, glt, mulL, mulR, divP, modP, rng1P, rng2P, at0, at1, at2, at3, at4, atm1a, atm1b, atm1c, atm1s, cut_tail, decide_true, decide_false, Bool.and_true, Bool.true_and, Bool.and_false, Bool.false_and, Bool.or_true, Bool.or_false, Bool.true_or, Bool.false_or, List.map_cons, List.map_nil, List.length_cons, List.length_nil, List.replicate, List.cons_append, List.nil_append, List.getElem?_cons_zero, List.getElem?_cons_succ, List.set_cons_zero, List.set_cons_succ, List.set_nil, Nat.reduceAdd, Nat.reduceSub, Nat.reduceLeDiff, Nat.reduceLT, guard_tt, ↓reduceIte, Bool.false_eq_true, Bool.not_true, Bool.not_false, Nat.zero_add, den_Signs_number_t7, den_Signs_number_t8, den_Signs_number_t9, e_rseq, e_krseq, e7, e8, e9, refO_bind, numO]
      · rw [if_neg h2] at e9 ⊢
        have hint : intD [.str (mkS (if m = true then 45 :: w else w))] = .ok (.int (sgn m (NumText.digitsVal w))) := by
          cases m with
          | true => exact int_neg (w := w) hall h0 (by omega)
          | false => exact int_fig (w := w) hall h0 (by omega)
        simp (maxSteps := 2000000) (disch := omega) only [e_lend, e_lend1, e_lend2, e_lend3, e_lend4, e_lend5, e_lend6, e_oixx, e_oixx1, e_oixx2, e_oixx3, e_oixx4, e_sets, e_sets0, e_sets1, e_sets2, e_sets3, e_sets4, e_sets5, e_sets6, e_appall, e_all_0, e_all_1, e_all_2, e_lclA, e_lcl, e_klcl, e_joind, e_joins, e_revrd, e_addb, e_lstb, e_klstb, e_fld, e_kfld, e_meth, e_kmeth, e_kmethb, e_make, e_mko, e_init, e_kini, e_kinib, e_kinic, e_alld0, e_alld1, e_alld2, e_starti, e_flds2, e_kf1, e_kf2, e_seq, e_seqn, e_seqr, e_if, e_dif, e_ift, e_iff, e_ret, e_kret, e_retv, e_kretv, e_retn, e_asg, e_kasg, e_asge, e_kasge, e_drop, e_kdrop, e_next, e_exc, e_muts, e_mutb, e_mut, e_kmut, e_app, e_ext, e_ins, e_setb, e_kset, e_set, e_set0, e_nx, e_unp, e_kunp, e_par, e_kpar, e_par3, e_kpar3, e_for, e_kfor, e_while, e_try, e_tryk, e_tryx, e_appb, e_kappl, e_appl, e_app0, e_llof1, e_llof2, e_m2d, e_m2c, e_m2, e_m2a, e_c, e_v, e_kv, e_own, e_kown, e_vs, e_kvs1, e_kvs2, e_kvs3, e_kix, e_oix, e_koix1, e_koix2, e_oit, e_koit1, e_koit2, e_2b, e_2, e_k2, e_1, e_k1, e_a, e_tos, e_ktos, e_anil, e_consb, e_acons, e_scons, e_kcons, e_snil, e_tup, e_ktup, e_lst, e_klst, e_slcb, e_slca, e_slc, e_kslc, e_slc1, e_slc2, e_slc3, e_ono, e_oso, e_koso, e_and, e_andt, e_andf, e_or, e_ort, e_orf, e_not, e_knot, e_andv, e_orv, e_kandv, e_korv, e_andwt, e_andwf, e_orwt, e_orwf, e_chdt, e_chdf, e_chc, e_chb, e_ch, e_kch, e_tob, e_notd, e_knotd, e_neg, e_add, e_addt, e_adds, e_sub, e_lt, e_le, e_gt, e_ge, e_ixl, e_ixt, e_ixs, e_ixr, e_trn, e_trb, e_tri, e_trl, e_trt, e_trs, e_trr, e_lenl, e_lent, e_lens, e_lenr, e_abs, e_max, e_min, e_cat, e_list1, e_list2, e_tuple1, e_tuple2, e_isn, e_isnn, e_ns1, e_ns2, e_nns1, e_nns2, e_no1, e_no2, e_no3, e_no4, e_int1, e_int2, e_run, e_endn, e_endr, e_endx, e_start, e_w0, e_w1, e_frz, e_kfr, e_kfrb, e_name, e_namest, e_namesl, e_all0, e_all1, e_ktupt, e_ktupl, e_ktc, e_ktcons, e_ktnil, e_yes, e_scs, e_sc1, e_sc2, e_sc3, e_sc4, e_itl, e_itt, e_lca, e_lc, e_klc, e_l0, e_l1, e_kl1, e_kl2t, e_kl2f, e_kl3, e_lp0, e_lp1, e_klp, e_klpn, e_klpr, ok_bind, bind_exc, bind_stuck, fz_d, fz_l, fz_ll, oOf_some, noX_k, eqD_ii, neD_ii, eqD_in, neD_in, eqD_ss, gle, glt, mulL, mulR, divP, modP, rng1P, rng2P, at0, at1, at2, at3, at4, atm1a, atm1b, atm1c, atm1s, cut_tail, decide_true, decide_false, Bool.and_true, Bool.true_and, Bool.and_false, Bool.false_and, Bool.or_true, Bool.or_false, Bool.true_or, Bool.false_or, List.map_cons, List.map_nil, List.length_cons, List.length_nil, List.replicate, List.cons_append, List.nil_append, List.getElem?_cons_zero, List.getElem?_cons_succ, List.set_cons_zero, List.set_cons_succ, List.set_nil, Nat.reduceAdd, Nat.reduceSub, Nat.reduceLeDiff, Nat.reduceLT, guard_tt, ↓reduceIte, Bool.false_eq_true, Bool.not_true, Bool.not_false, Nat.zero_add, den_Signs_number_t7, den_Signs_number_t8, den_Signs_number_t9, e_rseq, e_krseq, e7, e8, e9, e_rret, e_krret, e_fldm, fld_at, fld_text, hsl2, hint, e_krunm0, e_krunm, numO]
        rw [show a + (f - a + w.length) = f + w.length by omega]
theorem number_spec (T : List Nat) (a : Nat) (h : T.length ≤ 50000) : mo_Signs_number (signs T a) = numO T a (rdNum (T.drop a)) := by
  have hT : T.length ≤ 1000000 := by omega
  have run : mo_Signs_number (signs T a) = (den_Signs_number_t0 [some (.m "Signs" (signs T a)), none, none, none]).bind (kRunM0 "Signs") := by
    simp (maxSteps := 2000000) (disch := omega) only [e_lend, e_lend1, e_lend2, e_lend3, e_lend4, e_lend5, e_lend6, e_oixx, e_oixx1, e_oixx2, e_oixx3, e_oixx4, e_sets, e_sets0, e_sets1, e_sets2, e_sets3, e_sets4, e_sets5, e_sets6, e_appall, e_all_0, e_all_1, e_all_2, e_lclA, e_lcl, e_klcl, e_joind, e_joins, e_revrd, e_addb, e_lstb, e_klstb, e_fld, e_kfld, e_meth, e_kmeth, e_kmethb, e_make, e_mko, e_init, e_kini, e_kinib, e_kinic, e_alld0, e_alld1, e_alld2, e_starti, e_flds2, e_kf1, e_kf2, e_seq, e_seqn, e_seqr, e_if, e_dif, e_ift, e_iff, e_ret, e_kret, e_retv, e_kretv, e_retn, e_asg, e_kasg, e_asge, e_kasge, e_drop, e_kdrop, e_next, e_exc, e_muts, e_mutb, e_mut, e_kmut, e_app, e_ext, e_ins, e_setb, e_kset, e_set, e_set0, e_nx, e_unp, e_kunp, e_par, e_kpar, e_par3, e_kpar3, e_for, e_kfor, e_while, e_try, e_tryk, e_tryx, e_appb, e_kappl, e_appl, e_app0, e_llof1, e_llof2, e_m2d, e_m2c, e_m2, e_m2a, e_c, e_v, e_kv, e_own, e_kown, e_vs, e_kvs1, e_kvs2, e_kvs3, e_kix, e_oix, e_koix1, e_koix2, e_oit, e_koit1, e_koit2, e_2b, e_2, e_k2, e_1, e_k1, e_a, e_tos, e_ktos, e_anil, e_consb, e_acons, e_scons, e_kcons, e_snil, e_tup, e_ktup, e_lst, e_klst, e_slcb, e_slca, e_slc, e_kslc, e_slc1, e_slc2, e_slc3, e_ono, e_oso, e_koso, e_and, e_andt, e_andf, e_or, e_ort, e_orf, e_not, e_knot, e_andv, e_orv, e_kandv, e_korv, e_andwt, e_andwf, e_orwt, e_orwf, e_chdt, e_chdf, e_chc, e_chb, e_ch, e_kch, e_tob, e_notd, e_knotd, e_neg, e_add, e_addt, e_adds, e_sub, e_lt, e_le, e_gt, e_ge, e_ixl, e_ixt, e_ixs, e_ixr, e_trn, e_trb, e_tri, e_trl, e_trt, e_trs, e_trr, e_lenl, e_lent, e_lens, e_lenr, e_abs, e_max, e_min, e_cat, e_list1, e_list2, e_tuple1, e_tuple2, e_isn, e_isnn, e_ns1, e_ns2, e_nns1, e_nns2, e_no1, e_no2, e_no3, e_no4, e_int1, e_int2, e_run, e_endn, e_endr, e_endx, e_start, e_w0, e_w1, e_frz, e_kfr, e_kfrb, e_name, e_namest, e_namesl, e_all0, e_all1, e_ktupt, e_ktupl, e_ktc, e_ktcons, e_ktnil, e_yes, e_scs, e_sc1, e_sc2, e_sc3, e_sc4, e_itl, e_itt, e_lca, e_lc, e_klc, e_l0, e_l1, e_kl1, e_kl2t, e_kl2f, e_kl3, e_lp0, e_lp1, e_klp, e_klpn, e_klpr, ok_bind, bind_exc, bind_stuck, fz_d, fz_l, fz_ll, oOf_some, noX_k, eqD_ii, neD_ii, eqD_in, neD_in, eqD_ss, gle, glt, mulL, mulR, divP, modP, rng1P, rng2P, at0, at1, at2, at3, at4, atm1a, atm1b, atm1c, atm1s, cut_tail, decide_true, decide_false, Bool.and_true, Bool.true_and, Bool.and_false, Bool.false_and, Bool.or_true, Bool.or_false, Bool.true_or, Bool.false_or, List.map_cons, List.map_nil, List.length_cons, List.length_nil, List.replicate, List.cons_append, List.nil_append, List.getElem?_cons_zero, List.getElem?_cons_succ, List.set_cons_zero, List.set_cons_succ, List.set_nil, Nat.reduceAdd, Nat.reduceSub, Nat.reduceLeDiff, Nat.reduceLT, guard_tt, ↓reduceIte, Bool.false_eq_true, Bool.not_true, Bool.not_false, Nat.zero_add, mo_Signs_number, e_runm, den_Signs_number]
  rw [run]
  unfold rdNum
  have ha : (T.drop a).take 1 = nx T a := rfl
  rw [ha]
  by_cases h0 : nx T a = [32]
  · rw [if_pos h0, List.drop_drop]
    have x2 : den_Signs_number_t0 [some (.m "Signs" (signs T a)), none, none, none] = den_Signs_number_t3 [some (.m "Signs" (signs T (a + 1))), some (.d (.int ((a + 1 : Nat) : Int))), none, none] := by
      simp (maxSteps := 2000000) (disch := omega) only [e_lend, e_lend1, e_lend2, e_lend3, e_lend4, e_lend5, e_lend6, e_oixx, e_oixx1, e_oixx2, e_oixx3, e_oixx4, e_sets, e_sets0, e_sets1, e_sets2, e_sets3, e_sets4, e_sets5, e_sets6, e_appall, e_all_0, e_all_1, e_all_2, e_lclA, e_lcl, e_klcl, e_joind, e_joins, e_revrd, e_addb, e_lstb, e_klstb, e_fld, e_kfld, e_meth, e_kmeth, e_kmethb, e_make, e_mko, e_init, e_kini, e_kinib, e_kinic, e_alld0, e_alld1, e_alld2, e_starti, e_flds2, e_kf1, e_kf2, e_seq, e_seqn, e_seqr, e_if, e_dif, e_ift, e_iff, e_ret, e_kret, e_retv, e_kretv, e_retn, e_asg, e_kasg, e_asge, e_kasge, e_drop, e_kdrop, e_next, e_exc, e_muts, e_mutb, e_mut, e_kmut, e_app, e_ext, e_ins, e_setb, e_kset, e_set, e_set0, e_nx, e_unp, e_kunp, e_par, e_kpar, e_par3, e_kpar3, e_for, e_kfor, e_while, e_try, e_tryk, e_tryx, e_appb, e_kappl, e_appl, e_app0, e_llof1, e_llof2, e_m2d, e_m2c, e_m2, e_m2a, e_c, e_v, e_kv, e_own, e_kown, e_vs, e_kvs1, e_kvs2, e_kvs3, e_kix, e_oix, e_koix1, e_koix2, e_oit, e_koit1, e_koit2, e_2b, e_2, e_k2, e_1, e_k1, e_a, e_tos, e_ktos, e_anil, e_consb, e_acons, e_scons, e_kcons, e_snil, e_tup, e_ktup, e_lst, e_klst, e_slcb, e_slca, e_slc, e_kslc, e_slc1, e_slc2, e_slc3, e_ono, e_oso, e_koso, e_and, e_andt, e_andf, e_or, e_ort, e_orf, e_not, e_knot, e_andv, e_orv, e_kandv, e_korv, e_andwt, e_andwf, e_orwt, e_orwf, e_chdt, e_chdf, e_chc, e_chb, e_ch, e_kch, e_tob, e_notd, e_knotd, e_neg, e_add, e_addt, e_adds, e_sub, e_lt, e_le, e_gt, e_ge, e_ixl, e_ixt, e_ixs, e_ixr, e_trn, e_trb, e_tri, e_trl, e_trt, e_trs, e_trr, e_lenl, e_lent, e_lens, e_lenr, e_abs, e_max, e_min, e_cat, e_list1, e_list2, e_tuple1, e_tuple2, e_isn, e_isnn, e_ns1, e_ns2, e_nns1, e_nns2, e_no1, e_no2, e_no3, e_no4, e_int1, e_int2, e_run, e_endn, e_endr, e_endx, e_start, e_w0, e_w1, e_frz, e_kfr, e_kfrb, e_name, e_namest, e_namesl, e_all0, e_all1, e_ktupt, e_ktupl, e_ktc, e_ktcons, e_ktnil, e_yes, e_scs, e_sc1, e_sc2, e_sc3, e_sc4, e_itl, e_itt, e_lca, e_lc, e_klc, e_l0, e_l1, e_kl1, e_kl2t, e_kl2f, e_kl3, e_lp0, e_lp1, e_klp, e_klpn, e_klpr, ok_bind, bind_exc, bind_stuck, fz_d, fz_l, fz_ll, oOf_some, noX_k, eqD_ii, neD_ii, eqD_in, neD_in, eqD_ss, gle, glt, mulL, mulR, divP, modP, rng1P, rng2P, at0, at1, at2, at3, at4, atm1a, atm1b, atm1c, atm1s, cut_tail, decide_true, decide_false, Bool.and_true, Bool.true_and, Bool.and_false, Bool.false_and, Bool.or_true, Bool.or_false, Bool.true_or, Bool.false_or, List.map_cons, List.map_nil, List.length_cons, List.length_nil, List.replicate, List.cons_append, List.nil_append, List.getElem?_cons_zero, List.getElem?_cons_succ, List.set_cons_zero, List.set_cons_succ, List.set_nil, Nat.reduceAdd, Nat.reduceSub, Nat.reduceLeDiff, Nat.reduceLT, guard_tt, ↓reduceIte, Bool.false_eq_true, Bool.not_true, Bool.not_false, Nat.zero_add, den_Signs_number_t0, den_Signs_number_s0, den_Signs_number_t1, den_Signs_number_s1, den_Signs_number_t2, den_Signs_number_s2, e_rseq, e_krseq, e_meths, ks_sees T a hT, h0, s_blank, ne_str', e_fset, e_kfset0, e_fldm, fld_at, fset_sg]
    rw [x2]
    by_cases h1 : nx T (a + 1) = [45]
    · have h1' : (T.drop (a + 1)).take 1 = [45] := h1
      rw [if_pos h1', List.drop_drop]
      have x3 : den_Signs_number_t3 [some (.m "Signs" (signs T (a + 1))), some (.d (.int ((a + 1 : Nat) : Int))), none, none] = den_Signs_number_t4 [some (.m "Signs" (signs T (a + 2))), some (.d (.int ((a + 1 : Nat) : Int))), none, none] := by
        simp (maxSteps := 2000000) (disch := omega) only [e_lend, e_lend1, e_lend2, e_lend3, e_lend4, e_lend5, e_lend6, e_oixx, e_oixx1, e_oixx2, e_oixx3, e_oixx4, e_sets, e_sets0, e_sets1, e_sets2, e_sets3, e_sets4, e_sets5, e_sets6, e_appall, e_all_0, e_all_1, e_all_2, e_lclA, e_lcl, e_klcl, e_joind, e_joins, e_revrd, e_addb, e_lstb, e_klstb, e_fld, e_kfld, e_meth, e_kmeth, e_kmethb, e_make, e_mko, e_init, e_kini, e_kinib, e_kinic, e_alld0, e_alld1, e_alld2, e_starti, e_flds2, e_kf1, e_kf2, e_seq, e_seqn, e_seqr, e_if, e_dif, e_ift, e_iff, e_ret, e_kret, e_retv, e_kretv, e_retn, e_asg, e_kasg, e_asge, e_kasge, e_drop, e_kdrop, e_next, e_exc, e_muts, e_mutb, e_mut, e_kmut, e_app, e_ext, e_ins, e_setb, e_kset, e_set, e_set0, e_nx, e_unp, e_kunp, e_par, e_kpar, e_par3, e_kpar3, e_for, e_kfor, e_while, e_try, e_tryk, e_tryx, e_appb, e_kappl, e_appl, e_app0, e_llof1, e_llof2, e_m2d, e_m2c, e_m2, e_m2a, e_c, e_v, e_kv, e_own, e_kown, e_vs, e_kvs1, e_kvs2, e_kvs3, e_kix, e_oix, e_koix1, e_koix2, e_oit, e_koit1, e_koit2, e_2b, e_2, e_k2, e_1, e_k1, e_a, e_tos, e_ktos, e_anil, e_consb, e_acons, e_scons, e_kcons, e_snil, e_tup, e_ktup, e_lst, e_klst, e_slcb, e_slca, e_slc, e_kslc, e_slc1, e_slc2, e_slc3, e_ono, e_oso, e_koso, e_and, e_andt, e_andf, e_or, e_ort, e_orf, e_not, e_knot, e_andv, e_orv, e_kandv, e_korv, e_andwt, e_andwf, e_orwt, e_orwf, e_chdt, e_chdf, e_chc, e_chb, e_ch, e_kch, e_tob, e_notd, e_knotd, e_neg, e_add, e_addt, e_adds, e_sub, e_lt, e_le, e_gt, e_ge, e_ixl, e_ixt, e_ixs, e_ixr, e_trn, e_trb, e_tri, e_trl, e_trt, e_trs, e_trr, e_lenl, e_lent, e_lens, e_lenr, e_abs, e_max, e_min, e_cat, e_list1, e_list2, e_tuple1, e_tuple2, e_isn, e_isnn, e_ns1, e_ns2, e_nns1, e_nns2, e_no1, e_no2, e_no3, e_no4, e_int1, e_int2, e_run, e_endn, e_endr, e_endx, e_start, e_w0, e_w1, e_frz, e_kfr, e_kfrb, e_name, e_namest, e_namesl, e_all0, e_all1, e_ktupt, e_ktupl, e_ktc, e_ktcons, e_ktnil, e_yes, e_scs, e_sc1, e_sc2, e_sc3, e_sc4, e_itl, e_itt, e_lca, e_lc, e_klc, e_l0, e_l1, e_kl1, e_kl2t, e_kl2f, e_kl3, e_lp0, e_lp1, e_klp, e_klpn, e_klpr, ok_bind, bind_exc, bind_stuck, fz_d, fz_l, fz_ll, oOf_some, noX_k, eqD_ii, neD_ii, eqD_in, neD_in, eqD_ss, gle, glt, mulL, mulR, divP, modP, rng1P, rng2P, at0, at1, at2, at3, at4, atm1a, atm1b, atm1c, atm1s, cut_tail, decide_true, decide_false, Bool.and_true, Bool.true_and, Bool.and_false, Bool.false_and, Bool.or_true, Bool.or_false, Bool.true_or, Bool.false_or, List.map_cons, List.map_nil, List.length_cons, List.length_nil, List.replicate, List.cons_append, List.nil_append, List.getElem?_cons_zero, List.getElem?_cons_succ, List.set_cons_zero, List.set_cons_succ, List.set_nil, Nat.reduceAdd, Nat.reduceSub, Nat.reduceLeDiff, Nat.reduceLT, guard_tt, ↓reduceIte, Bool.false_eq_true, Bool.not_true, Bool.not_false, Nat.zero_add, den_Signs_number_t3, den_Signs_number_s3, e_rseq, e_krseq, e_meths, ks_sees T (a + 1) hT, h1, s_minus, eq_str, mkS_beq, e_fset, e_kfset0, e_fldm, fld_at, fset_sg]
      rw [x3, num_t4 T a true (a + 2) h rfl ⟨fun _ => rfl, fun _ => h1⟩, show a + 2 - a = 2 by omega]
    · have h1' : ¬ (T.drop (a + 1)).take 1 = [45] := h1
      rw [if_neg h1']
      have d1 : decide (nx T (a + 1) = [45]) = false := decide_eq_false h1
      have x3 : den_Signs_number_t3 [some (.m "Signs" (signs T (a + 1))), some (.d (.int ((a + 1 : Nat) : Int))), none, none] = den_Signs_number_t4 [some (.m "Signs" (signs T (a + 1))), some (.d (.int ((a + 1 : Nat) : Int))), none, none] := by
        simp (maxSteps := 2000000) (disch := omega) only [e_lend, e_lend1, e_lend2, e_lend3, e_lend4, e_lend5, e_lend6, e_oixx, e_oixx1, e_oixx2, e_oixx3, e_oixx4, e_sets, e_sets0, e_sets1, e_sets2, e_sets3, e_sets4, e_sets5, e_sets6, e_appall, e_all_0, e_all_1, e_all_2, e_lclA, e_lcl, e_klcl, e_joind, e_joins, e_revrd, e_addb, e_lstb, e_klstb, e_fld, e_kfld, e_meth, e_kmeth, e_kmethb, e_make, e_mko, e_init, e_kini, e_kinib, e_kinic, e_alld0, e_alld1, e_alld2, e_starti, e_flds2, e_kf1, e_kf2, e_seq, e_seqn, e_seqr, e_if, e_dif, e_ift, e_iff, e_ret, e_kret, e_retv, e_kretv, e_retn, e_asg, e_kasg, e_asge, e_kasge, e_drop, e_kdrop, e_next, e_exc, e_muts, e_mutb, e_mut, e_kmut, e_app, e_ext, e_ins, e_setb, e_kset, e_set, e_set0, e_nx, e_unp, e_kunp, e_par, e_kpar, e_par3, e_kpar3, e_for, e_kfor, e_while, e_try, e_tryk, e_tryx, e_appb, e_kappl, e_appl, e_app0, e_llof1, e_llof2, e_m2d, e_m2c, e_m2, e_m2a, e_c, e_v, e_kv, e_own, e_kown, e_vs, e_kvs1, e_kvs2, e_kvs3, e_kix, e_oix, e_koix1, e_koix2, e_oit, e_koit1, e_koit2, e_2b, e_2, e_k2, e_1, e_k1, e_a, e_tos, e_ktos, e_anil, e_consb, e_acons, e_scons, e_kcons, e_snil, e_tup, e_ktup, e_lst, e_klst, e_slcb, e_slca, e_slc, e_kslc, e_slc1, e_slc2, e_slc3, e_ono, e_oso, e_koso, e_and, e_andt, e_andf, e_or, e_ort, e_orf, e_not, e_knot, e_andv, e_orv, e_kandv, e_korv, e_andwt, e_andwf, e_orwt, e_orwf, e_chdt, e_chdf, e_chc, e_chb, e_ch, e_kch, e_tob, e_notd, e_knotd, e_neg, e_add, e_addt, e_adds, e_sub, e_lt, e_le, e_gt, e_ge, e_ixl, e_ixt, e_ixs, e_ixr, e_trn, e_trb, e_tri, e_trl, e_trt, e_trs, e_trr, e_lenl, e_lent, e_lens, e_lenr, e_abs, e_max, e_min, e_cat, e_list1, e_list2, e_tuple1, e_tuple2, e_isn, e_isnn, e_ns1, e_ns2, e_nns1, e_nns2, e_no1, e_no2, e_no3, e_no4, e_int1, e_int2, e_run, e_endn, e_endr, e_endx, e_start, e_w0, e_w1, e_frz, e_kfr, e_kfrb, e_name, e_namest, e_namesl, e_all0, e_all1, e_ktupt, e_ktupl, e_ktc, e_ktcons, e_ktnil, e_yes, e_scs, e_sc1, e_sc2, e_sc3, e_sc4, e_itl, e_itt, e_lca, e_lc, e_klc, e_l0, e_l1, e_kl1, e_kl2t, e_kl2f, e_kl3, e_lp0, e_lp1, e_klp, e_klpn, e_klpr, ok_bind, bind_exc, bind_stuck, fz_d, fz_l, fz_ll, oOf_some, noX_k, eqD_ii, neD_ii, eqD_in, neD_in, eqD_ss, gle, glt, mulL, mulR, divP, modP, rng1P, rng2P, at0, at1, at2, at3, at4, atm1a, atm1b, atm1c, atm1s, cut_tail, decide_true, decide_false, Bool.and_true, Bool.true_and, Bool.and_false, Bool.false_and, Bool.or_true, Bool.or_false, Bool.true_or, Bool.false_or, List.map_cons, List.map_nil, List.length_cons, List.length_nil, List.replicate, List.cons_append, List.nil_append, List.getElem?_cons_zero, List.getElem?_cons_succ, List.set_cons_zero, List.set_cons_succ, List.set_nil, Nat.reduceAdd, Nat.reduceSub, Nat.reduceLeDiff, Nat.reduceLT, guard_tt, ↓reduceIte, Bool.false_eq_true, Bool.not_true, Bool.not_false, Nat.zero_add, den_Signs_number_t3, den_Signs_number_s3, e_rseq, e_krseq, e_meths, ks_sees T (a + 1) hT, d1, s_minus, eq_str, mkS_beq]
      rw [x3, num_t4 T a false (a + 1) h rfl ⟨fun z => absurd z h1', fun z => by cases z⟩, show a + 1 - a = 1 by omega]
  · rw [if_neg h0]
    have d0 : decide (nx T a = [32]) = false := decide_eq_false h0
    simp (maxSteps := 2000000) (disch := omega) only [e_lend, e_lend1, e_lend2, e_lend3, e_lend4, e_lend5, e_lend6, e_oixx, e_oixx1, e_oixx2, e_oixx3, e_oixx4, e_sets, e_sets0, e_sets1, e_sets2, e_sets3, e_sets4, e_sets5, e_sets6, e_appall, e_all_0, e_all_1, e_all_2, e_lclA, e_lcl, e_klcl, e_joind, e_joins, e_revrd, e_addb, e_lstb, e_klstb, e_fld, e_kfld, e_meth, e_kmeth, e_kmethb, e_make, e_mko, e_init, e_kini, e_kinib, e_kinic, e_alld0, e_alld1, e_alld2, e_starti, e_flds2, e_kf1, e_kf2, e_seq, e_seqn, e_seqr, e_if, e_dif, e_ift, e_iff, e_ret, e_kret, e_retv, e_kretv, e_retn, e_asg, e_kasg, e_asge, e_kasge, e_drop, e_kdrop, e_next, e_exc, e_muts, e_mutb, e_mut, e_kmut, e_app, e_ext, e_ins, e_setb, e_kset, e_set, e_set0, e_nx, e_unp, e_kunp, e_par, e_kpar, e_par3, e_kpar3, e_for, e_kfor, e_while, e_try, e_tryk, e_tryx, e_appb, e_kappl, e_appl, e_app0, e_llof1, e_llof2, e_m2d, e_m2c, e_m2, e_m2a, e_c, e_v, e_kv, e_own, e_kown, e_vs, e_kvs1, e_kvs2, e_kvs3, e_kix, e_oix, e_koix1, e_koix2, e_oit, e_koit1, e_koit2, e_2b, e_2, e_k2, e_1, e_k1, e_a, e_tos, e_ktos, e_anil, e_consb, e_acons, e_scons, e_kcons, e_snil, e_tup, e_ktup, e_lst, e_klst, e_slcb, e_slca, e_slc, e_kslc, e_slc1, e_slc2, e_slc3, e_ono, e_oso, e_koso, e_and, e_andt, e_andf, e_or, e_ort, e_orf, e_not, e_knot, e_andv, e_orv, e_kandv, e_korv, e_andwt, e_andwf, e_orwt, e_orwf, e_chdt, e_chdf, e_chc, e_chb, e_ch, e_kch, e_tob, e_notd, e_knotd, e_neg, e_add, e_addt, e_adds, e_sub, e_lt, e_le, e_gt, e_ge, e_ixl, e_ixt, e_ixs, e_ixr, e_trn, e_trb, e_tri, e_trl, e_trt, e_trs, e_trr, e_lenl, e_lent, e_lens, e_lenr, e_abs, e_max, e_min, e_cat, e_list1, e_list2, e_tuple1, e_tuple2, e_isn, e_isnn, e_ns1, e_ns2, e_nns1, e_nns2, e_no1, e_no2, e_no3, e_no4, e_int1, e_int2, e_run, e_endn, e_endr, e_endx, e_start, e_w0, e_w1, e_frz, e_kfr, e_kfrb, e_name, e_namest, e_namesl, e_all0, e_all1, e_ktupt, e_ktupl, e_ktc, e_ktcons, e_ktnil, e_yes, e_scs, e_sc1, e_sc2, e_sc3, e_sc4, e_itl, e_itt, e_lca, e_lc, e_klc, e_l0, e_l1, e_kl1, e_kl2t, e_kl2f, e_kl3, e_lp0, e_lp1, e_klp, e_klpn, e_klpr, ok_bind, bind_exc, bind_stuck, fz_d, fz_l, fz_ll, oOf_some, noX_k, eqD_ii, neD_ii, eqD_in, neD_in, eqD_ss, gle, glt, mulL, mulR, divP, modP, rng1P, rng2P, at0, at1, at2, at3, at4, atm1a, atm1b, atm1c, atm1s, cut_tail, decide_true, decide_false, Bool.and_true, Bool.true_and, Bool.and_false, Bool.false_and, Bool.or_true, Bool.or_false, Bool.true_or, Bool.false_or, List.map_cons, List.map_nil, List.length_cons, List.length_nil, List.replicate, List.cons_append, List.nil_append, List.getElem?_cons_zero, List.getElem?_cons_succ, List.set_cons_zero, List.set_cons_succ, List.set_nil, Nat.reduceAdd, Nat.reduceSub, Nat.reduceLeDiff, Nat.reduceLT, guard_tt, ↓reduceIte, Bool.false_eq_true, Bool.not_true, Bool.not_false, Nat.zero_add, den_Signs_number_t0, den_Signs_number_s0, e_rseq, e_krseq, e_meths, ks_sees T a hT, d0, s_blank, ne_str', e_stuck, refO_bind, numO, Nat.add_zero]
    rfl
end G

set_option Elab.async false
set_option linter.all false
set_option maxRecDepth 100000
set_option maxHeartbeats 8000000
namespace G
open PySem L2
/-! ### one turn of the reading -/
def wD (F : List (List Sn)) : List (List D) := F.map fun w => w.map snD
def fS : List (List Sn) → S
  | [] => .l []
  | w :: F => .ll (wD (w :: F))
theorem fS_fz (F : List (List Sn)) : (fS F).fz = .ok (.lst ((wD F).map .lst)) := by cases F <;> rfl
theorem fS_ll (F : List (List Sn)) : llOf (fS F) = some (wD F) := by cases F <;> rfl
theorem fS_app (G : List (List Sn)) (w : List Sn) : fS (G ++ [w]) = .ll (wD (G ++ [w])) := by cases G <;> rfl
theorem wD_len (F : List (List Sn)) : (wD F).length = F.length := List.length_map _
abbrev rho (T : List Nat) (a : Nat) (F : List (List Sn)) (x3 x4 x5 x6 x7 x8 : Option S) : Env := [some (.d (.str (mkS T))), some (.m "Signs" (signs T a)), some (fS F), x3, x4, x5, x6, x7, x8]
theorem tab_let (c : Nat) : tabW tt_LETTERS (mkS [c]) = if c = 77 then some (.str "at") else if c = 76 then some (.str "to") else if c = 81 then some (.str "by") else none := by
  unfold tabW tt_LETTERS
  have h1 : (("M" : Str) == mkS [c]) = decide (c = 77) := by rw [s_M, mkS_beq]; exact decide_eq_decide.mpr ⟨fun h => by cases h; rfl, fun h => by rw [h]⟩
  have h2 : (("L" : Str) == mkS [c]) = decide (c = 76) := by rw [s_L, mkS_beq]; exact decide_eq_decide.mpr ⟨fun h => by cases h; rfl, fun h => by rw [h]⟩
  have h3 : (("Q" : Str) == mkS [c]) = decide (c = 81) := by rw [s_Q, mkS_beq]; exact decide_eq_decide.mpr ⟨fun h => by cases h; rfl, fun h => by rw [h]⟩
  rw [List.find?_cons, List.find?_cons, List.find?_cons, List.find?_nil]
  dsimp only
  rw [h1, h2, h3]
  by_cases e1 : c = 77
  · rw [decide_eq_true e1, if_pos e1]; rfl
  · rw [decide_eq_false e1, if_neg e1]
    by_cases e2 : c = 76
    · rw [decide_eq_true e2, if_pos e2]; rfl
    · rw [decide_eq_false e2, if_neg e2]
      by_cases e3 : c = 81
      · rw [decide_eq_true e3, if_pos e3]; rfl
      · rw [decide_eq_false e3, if_neg e3]; rfl
theorem gin_let (c : Nat) : ginT tt_LETTERS (.str (mkS [c])) = .ok (.bl (isLet c)) := by
  show Out.ok (D.bl (tabW tt_LETTERS (mkS [c])).isSome) = _
  rw [tab_let]
  unfold isLet
  by_cases e1 : c = 77
  · rw [if_pos e1, e1]; rfl
  · rw [if_neg e1]
    by_cases e2 : c = 76
    · rw [if_pos e2, e2]; rfl
    · rw [if_neg e2]
      by_cases e3 : c = 81
      · rw [if_pos e3, e3]; rfl
      · rw [if_neg e3]
        have h1 : (c == 77) = false := by simpa using e1
        have h2 : (c == 76) = false := by simpa using e2
        have h3 : (c == 81) = false := by simpa using e3
        rw [h1, h2, h3]; rfl
theorem gix_let {c : Nat} (h : isLet c = true) : gidxT tt_LETTERS (.str (mkS [c])) = .ok (.str (wl c)) := by
  show oOf (tabW tt_LETTERS (mkS [c])) = _
  rw [tab_let]
  unfold isLet at h
  unfold wl
  by_cases e1 : c = 77
  · rw [if_pos e1, if_pos e1]; rfl
  · by_cases e2 : c = 76
    · rw [if_neg e1, if_neg e1, if_pos e2, if_pos e2]; rfl
    · have e3 : c = 81 := by simpa [e1, e2] using h
      rw [if_neg e1, if_neg e1, if_neg e2, if_neg e2, if_pos e3]; rfl
theorem let_cases {c : Nat} (h : isLet c = true) : c = 77 ∨ c = 76 ∨ c = 81 := by
  unfold isLet at h; simpa [or_assoc] using h
theorem gix_cnt {c : Nat} (h : isLet c = true) : gidxT tt_COUNTS (.str (wl c)) = .ok (.int ((cnt c : Nat) + 1 : Int)) := by
  rcases let_cases h with rfl | rfl | rfl <;> rfl
theorem eq_bb (p q : Bool) : eqD (.bl p) (.bl q) = .ok (.bl (p == q)) := by unfold eqD; rw [guard_t (show eqOk (.bl p) (.bl q) from rfl), eqv_bb]
theorem sD1 (c d : Nat) : decide (([c] : List Nat) = [d]) = (c == d) := by
  by_cases h : c = d
  · rw [decide_eq_true (by rw [h])]; simp [h]
  · rw [decide_eq_false (fun z => h (by cases z; rfl))]; simp [h]
/-- whether a way begins at the place a -/
def begs (T : List Nat) (a : Nat) (F : List (List Sn)) : Bool := F.isEmpty || (decide (0 < a) && decide (T[a - 1]? = some 10))
theorem wD_nil (F : List (List Sn)) : ((wD F).map D.lst).isEmpty = F.isEmpty := by cases F <;> rfl
theorem turn_s1 (T : List Nat) (a c : Nat) (F : List (List Sn)) (hT : T.length ≤ 50000) (ha : a < T.length) (x4 x5 x6 x7 x8 : Option S) :
    den_read_x1_s1 (rho T a F (some (.d (.str (mkS [c])))) x4 x5 x6 x7 x8) = .ok (.next (rho T a F (some (.d (.str (mkS [c])))) (some (.d (.bl (isLet c && ((c == 77) == begs T a F))))) x5 x6 x7 x8)) := by
  cases hl : isLet c with
  | false => simp (maxSteps := 2000000) (disch := omega) only [e_lend, e_lend1, e_lend2, e_lend3, e_lend4, e_lend5, e_lend6, e_oixx, e_oixx1, e_oixx2, e_oixx3, e_oixx4, e_sets, e_sets0, e_sets1, e_sets2, e_sets3, e_sets4, e_sets5, e_sets6, e_appall, e_all_0, e_all_1, e_all_2, e_lclA, e_lcl, e_klcl, e_joind, e_joins, e_revrd, e_addb, e_lstb, e_klstb, e_fld, e_kfld, e_meth, e_kmeth, e_kmethb, e_make, e_mko, e_init, e_kini, e_kinib, e_kinic, e_alld0, e_alld1, e_alld2, e_starti, e_flds2, e_kf1, e_kf2, e_seq, e_seqn, e_seqr, e_if, e_dif, e_ift, e_iff, e_ret, e_kret, e_retv, e_kretv, e_retn, e_asg, e_kasg, e_asge, e_kasge, e_drop, e_kdrop, e_next, e_exc, e_muts, e_mutb, e_mut, e_kmut, e_app, e_ext, e_ins, e_setb, e_kset, e_set, e_set0, e_nx, e_unp, e_kunp, e_par, e_kpar, e_par3, e_kpar3, e_for, e_kfor, e_while, e_try, e_tryk, e_tryx, e_appb, e_kappl, e_appl, e_app0, e_llof1, e_llof2, e_m2d, e_m2c, e_m2, e_m2a, e_c, e_v, e_kv, e_own, e_kown, e_vs, e_kvs1, e_kvs2, e_kvs3, e_kix, e_oix, e_koix1, e_koix2, e_oit, e_koit1, e_koit2, e_2b, e_2, e_k2, e_1, e_k1, e_a, e_tos, e_ktos, e_anil, e_consb, e_acons, e_scons, e_kcons, e_snil, e_tup, e_ktup, e_lst, e_klst, e_slcb, e_slca, e_slc, e_kslc, e_slc1, e_slc2, e_slc3, e_ono, e_oso, e_koso, e_and, e_andt, e_andf, e_or, e_ort, e_orf, e_not, e_knot, e_andv, e_orv, e_kandv, e_korv, e_andwt, e_andwf, e_orwt, e_orwf, e_chdt, e_chdf, e_chc, e_chb, e_ch, e_kch, e_tob, e_notd, e_knotd, e_neg, e_add, e_addt, e_adds, e_sub, e_lt, e_le, e_gt, e_ge, e_ixl, e_ixt, e_ixs, e_ixr, e_trn, e_trb, e_tri, e_trl, e_trt, e_trs, e_trr, e_lenl, e_lent, e_lens, e_lenr, e_abs, e_max, e_min, e_cat, e_list1, e_list2, e_tuple1, e_tuple2, e_isn, e_isnn, e_ns1, e_ns2, e_nns1, e_nns2, e_no1, e_no2, e_no3, e_no4, e_int1, e_int2, e_run, e_endn, e_endr, e_endx, e_start, e_w0, e_w1, e_frz, e_kfr, e_kfrb, e_name, e_namest, e_namesl, e_all0, e_all1, e_ktupt, e_ktupl, e_ktc, e_ktcons, e_ktnil, e_yes, e_scs, e_sc1, e_sc2, e_sc3, e_sc4, e_itl, e_itt, e_lca, e_lc, e_klc, e_l0, e_l1, e_kl1, e_kl2t, e_kl2f, e_kl3, e_lp0, e_lp1, e_klp, e_klpn, e_klpr, ok_bind, bind_exc, bind_stuck, fz_d, fz_l, fz_ll, oOf_some, noX_k, eqD_ii, neD_ii, eqD_in, neD_in, eqD_ss, gle, glt, mulL, mulR, divP, modP, rng1P, rng2P, at0, at1, at2, at3, at4, atm1a, atm1b, atm1c, atm1s, cut_tail, decide_true, decide_false, Bool.and_true, Bool.true_and, Bool.and_false, Bool.false_and, Bool.or_true, Bool.or_false, Bool.true_or, Bool.false_or, List.map_cons, List.map_nil, List.length_cons, List.length_nil, List.replicate, List.cons_append, List.nil_append, List.getElem?_cons_zero, List.getElem?_cons_succ, List.set_cons_zero, List.set_cons_succ, List.set_nil, Nat.reduceAdd, Nat.reduceSub, Nat.reduceLeDiff, Nat.reduceLT, guard_tt, ↓reduceIte, Bool.false_eq_true, Bool.not_true, Bool.not_false, Nat.zero_add, den_read_x1_s1, gin_let, hl]
  | true =>
    unfold begs
    cases hF : F.isEmpty with
    | true => simp (maxSteps := 2000000) (disch := omega) only [e_lend, e_lend1, e_lend2, e_lend3, e_lend4, e_lend5, e_lend6, e_oixx, e_oixx1, e_oixx2, e_oixx3, e_oixx4, e_sets, e_sets0, e_sets1, e_sets2, e_sets3, e_sets4, e_sets5, e_sets6, e_appall, e_all_0, e_all_1, e_all_2, e_lclA, e_lcl, e_klcl, e_joind, e_joins, e_revrd, e_addb, e_lstb, e_klstb, e_fld, e_kfld, e_meth, e_kmeth, e_kmethb, e_make, e_mko, e_init, e_kini, e_kinib, e_kinic, e_alld0, e_alld1, e_alld2, e_starti, e_flds2, e_kf1, e_kf2, e_seq, e_seqn, e_seqr, e_if, e_dif, e_ift, e_iff, e_ret, e_kret, e_retv, e_kretv, e_retn, e_asg, e_kasg, e_asge, e_kasge, e_drop, e_kdrop, e_next, e_exc, e_muts, e_mutb, e_mut, e_kmut, e_app, e_ext, e_ins, e_setb, e_kset, e_set, e_set0, e_nx, e_unp, e_kunp, e_par, e_kpar, e_par3, e_kpar3, e_for, e_kfor, e_while, e_try, e_tryk, e_tryx, e_appb, e_kappl, e_appl, e_app0, e_llof1, e_llof2, e_m2d, e_m2c, e_m2, e_m2a, e_c, e_v, e_kv, e_own, e_kown, e_vs, e_kvs1, e_kvs2, e_kvs3, e_kix, e_oix, e_koix1, e_koix2, e_oit, e_koit1, e_koit2, e_2b, e_2, e_k2, e_1, e_k1, e_a, e_tos, e_ktos, e_anil, e_consb, e_acons, e_scons, e_kcons, e_snil, e_tup, e_ktup, e_lst, e_klst, e_slcb, e_slca, e_slc, e_kslc, e_slc1, e_slc2, e_slc3, e_ono, e_oso, e_koso, e_and, e_andt, e_andf, e_or, e_ort, e_orf, e_not, e_knot, e_andv, e_orv, e_kandv, e_korv, e_andwt, e_andwf, e_orwt, e_orwf, e_chdt, e_chdf, e_chc, e_chb, e_ch, e_kch, e_tob, e_notd, e_knotd, e_neg, e_add, e_addt, e_adds, e_sub, e_lt, e_le, e_gt, e_ge, e_ixl, e_ixt, e_ixs, e_ixr, e_trn, e_trb, e_tri, e_trl, e_trt, e_trs, e_trr, e_lenl, e_lent, e_lens, e_lenr, e_abs, e_max, e_min, e_cat, e_list1, e_list2, e_tuple1, e_tuple2, e_isn, e_isnn, e_ns1, e_ns2, e_nns1, e_nns2, e_no1, e_no2, e_no3, e_no4, e_int1, e_int2, e_run, e_endn, e_endr, e_endx, e_start, e_w0, e_w1, e_frz, e_kfr, e_kfrb, e_name, e_namest, e_namesl, e_all0, e_all1, e_ktupt, e_ktupl, e_ktc, e_ktcons, e_ktnil, e_yes, e_scs, e_sc1, e_sc2, e_sc3, e_sc4, e_itl, e_itt, e_lca, e_lc, e_klc, e_l0, e_l1, e_kl1, e_kl2t, e_kl2f, e_kl3, e_lp0, e_lp1, e_klp, e_klpn, e_klpr, ok_bind, bind_exc, bind_stuck, fz_d, fz_l, fz_ll, oOf_some, noX_k, eqD_ii, neD_ii, eqD_in, neD_in, eqD_ss, gle, glt, mulL, mulR, divP, modP, rng1P, rng2P, at0, at1, at2, at3, at4, atm1a, atm1b, atm1c, atm1s, cut_tail, decide_true, decide_false, Bool.and_true, Bool.true_and, Bool.and_false, Bool.false_and, Bool.or_true, Bool.or_false, Bool.true_or, Bool.false_or, List.map_cons, List.map_nil, List.length_cons, List.length_nil, List.replicate, List.cons_append, List.nil_append, List.getElem?_cons_zero, List.getElem?_cons_succ, List.set_cons_zero, List.set_cons_succ, List.set_nil, Nat.reduceAdd, Nat.reduceSub, Nat.reduceLeDiff, Nat.reduceLT, guard_tt, ↓reduceIte, Bool.false_eq_true, Bool.not_true, Bool.not_false, Nat.zero_add, den_read_x1_s1, gin_let, hl, s_M, eq_str, mkS_beq, sD1, fS_fz, wD_nil, hF, eq_bb]
    | false =>
      by_cases h0 : 0 < a
      · obtain ⟨y, hy⟩ : ∃ y, T[a - 1]? = some y := ⟨T[a - 1], List.getElem?_eq_getElem (by omega)⟩
        have hix := ix_str T (a - 1) y (by omega) hy
        have e1 : (a : Int) - 1 = ((a - 1 : Nat) : Int) := by omega
        have d0 : decide ((0 : Int) < (a : Int)) = true := decide_eq_true (by omega)
        have d1 : decide (0 < a) = true := decide_eq_true h0
        have d2 : decide (T[a - 1]? = some 10) = (y == 10) := by
          rw [hy]
          by_cases q : y = 10
          · rw [q]; rfl
          · rw [decide_eq_false (by simpa using q)]; simp [q]
        simp (maxSteps := 2000000) (disch := omega) only [e_lend, e_lend1, e_lend2, e_lend3, e_lend4, e_lend5, e_lend6, e_oixx, e_oixx1, e_oixx2, e_oixx3, e_oixx4, e_sets, e_sets0, e_sets1, e_sets2, e_sets3, e_sets4, e_sets5, e_sets6, e_appall, e_all_0, e_all_1, e_all_2, e_lclA, e_lcl, e_klcl, e_joind, e_joins, e_revrd, e_addb, e_lstb, e_klstb, e_fld, e_kfld, e_meth, e_kmeth, e_kmethb, e_make, e_mko, e_init, e_kini, e_kinib, e_kinic, e_alld0, e_alld1, e_alld2, e_starti, e_flds2, e_kf1, e_kf2, e_seq, e_seqn, e_seqr, e_if, e_dif, e_ift, e_iff, e_ret, e_kret, e_retv, e_kretv, e_retn, e_asg, e_kasg, e_asge, e_kasge, e_drop, e_kdrop, e_next, e_exc, e_muts, e_mutb, e_mut, e_kmut, e_app, e_ext, e_ins, e_setb, e_kset, e_set, e_set0, e_nx, e_unp, e_kunp, e_par, e_kpar, e_par3, e_kpar3, e_for, e_kfor, e_while, e_try, e_tryk, e_tryx, e_appb, e_kappl, e_appl, e_app0, e_llof1, e_llof2, e_m2d, e_m2c, e_m2, e_m2a, e_c, e_v, e_kv, e_own, e_kown, e_vs, e_kvs1, e_kvs2, e_kvs3, e_kix, e_oix, e_koix1, e_koix2, e_oit, e_koit1, e_koit2, e_2b, e_2, e_k2, e_1, e_k1, e_a, e_tos, e_ktos, e_anil, e_consb, e_acons, e_scons, e_kcons, e_snil, e_tup, e_ktup, e_lst, e_klst, e_slcb, e_slca, e_slc, e_kslc, e_slc1, e_slc2, e_slc3, e_ono, e_oso, e_koso, e_and, e_andt, e_andf, e_or, e_ort, e_orf, e_not, e_knot, e_andv, e_orv, e_kandv, e_korv, e_andwt, e_andwf, e_orwt, e_orwf, e_chdt, e_chdf, e_chc, e_chb, e_ch, e_kch, e_tob, e_notd, e_knotd, e_neg, e_add, e_addt, e_adds, e_sub, e_lt, e_le, e_gt, e_ge, e_ixl, e_ixt, e_ixs, e_ixr, e_trn, e_trb, e_tri, e_trl, e_trt, e_trs, e_trr, e_lenl, e_lent, e_lens, e_lenr, e_abs, e_max, e_min, e_cat, e_list1, e_list2, e_tuple1, e_tuple2, e_isn, e_isnn, e_ns1, e_ns2, e_nns1, e_nns2, e_no1, e_no2, e_no3, e_no4, e_int1, e_int2, e_run, e_endn, e_endr, e_endx, e_start, e_w0, e_w1, e_frz, e_kfr, e_kfrb, e_name, e_namest, e_namesl, e_all0, e_all1, e_ktupt, e_ktupl, e_ktc, e_ktcons, e_ktnil, e_yes, e_scs, e_sc1, e_sc2, e_sc3, e_sc4, e_itl, e_itt, e_lca, e_lc, e_klc, e_l0, e_l1, e_kl1, e_kl2t, e_kl2f, e_kl3, e_lp0, e_lp1, e_klp, e_klpn, e_klpr, ok_bind, bind_exc, bind_stuck, fz_d, fz_l, fz_ll, oOf_some, noX_k, eqD_ii, neD_ii, eqD_in, neD_in, eqD_ss, gle, glt, mulL, mulR, divP, modP, rng1P, rng2P, at0, at1, at2, at3, at4, atm1a, atm1b, atm1c, atm1s, cut_tail, decide_true, decide_false, Bool.and_true, Bool.true_and, Bool.and_false, Bool.false_and, Bool.or_true, Bool.or_false, Bool.true_or, Bool.false_or, List.map_cons, List.map_nil, List.length_cons, List.length_nil, List.replicate, List.cons_append, List.nil_append, List.getElem?_cons_zero, List.getElem?_cons_succ, List.set_cons_zero, List.set_cons_succ, List.set_nil, Nat.reduceAdd, Nat.reduceSub, Nat.reduceLeDiff, Nat.reduceLT, guard_tt, ↓reduceIte, Bool.false_eq_true, Bool.not_true, Bool.not_false, Nat.zero_add, den_read_x1_s1, gin_let, hl, s_M, s_row, eq_str, mkS_beq, sD1, fS_fz, wD_nil, hF, eq_bb, e_fldm, fld_at, d0, d1, d2, e1, hix]
      · have d0 : decide ((0 : Int) < (a : Int)) = false := decide_eq_false (by omega)
        have d1 : decide (0 < a) = false := decide_eq_false h0
        simp (maxSteps := 2000000) (disch := omega) only [e_lend, e_lend1, e_lend2, e_lend3, e_lend4, e_lend5, e_lend6, e_oixx, e_oixx1, e_oixx2, e_oixx3, e_oixx4, e_sets, e_sets0, e_sets1, e_sets2, e_sets3, e_sets4, e_sets5, e_sets6, e_appall, e_all_0, e_all_1, e_all_2, e_lclA, e_lcl, e_klcl, e_joind, e_joins, e_revrd, e_addb, e_lstb, e_klstb, e_fld, e_kfld, e_meth, e_kmeth, e_kmethb, e_make, e_mko, e_init, e_kini, e_kinib, e_kinic, e_alld0, e_alld1, e_alld2, e_starti, e_flds2, e_kf1, e_kf2, e_seq, e_seqn, e_seqr, e_if, e_dif, e_ift, e_iff, e_ret, e_kret, e_retv, e_kretv, e_retn, e_asg, e_kasg, e_asge, e_kasge, e_drop, e_kdrop, e_next, e_exc, e_muts, e_mutb, e_mut, e_kmut, e_app, e_ext, e_ins, e_setb, e_kset, e_set, e_set0, e_nx, e_unp, e_kunp, e_par, e_kpar, e_par3, e_kpar3, e_for, e_kfor, e_while, e_try, e_tryk, e_tryx, e_appb, e_kappl, e_appl, e_app0, e_llof1, e_llof2, e_m2d, e_m2c, e_m2, e_m2a, e_c, e_v, e_kv, e_own, e_kown, e_vs, e_kvs1, e_kvs2, e_kvs3, e_kix, e_oix, e_koix1, e_koix2, e_oit, e_koit1, e_koit2, e_2b, e_2, e_k2, e_1, e_k1, e_a, e_tos, e_ktos, e_anil, e_consb, e_acons, e_scons, e_kcons, e_snil, e_tup, e_ktup, e_lst, e_klst, e_slcb, e_slca, e_slc, e_kslc, e_slc1, e_slc2, e_slc3, e_ono, e_oso, e_koso, e_and, e_andt, e_andf, e_or, e_ort, e_orf, e_not, e_knot, e_andv, e_orv, e_kandv, e_korv, e_andwt, e_andwf, e_orwt, e_orwf, e_chdt, e_chdf, e_chc, e_chb, e_ch, e_kch, e_tob, e_notd, e_knotd, e_neg, e_add, e_addt, e_adds, e_sub, e_lt, e_le, e_gt, e_ge, e_ixl, e_ixt, e_ixs, e_ixr, e_trn, e_trb, e_tri, e_trl, e_trt, e_trs, e_trr, e_lenl, e_lent, e_lens, e_lenr, e_abs, e_max, e_min, e_cat, e_list1, e_list2, e_tuple1, e_tuple2, e_isn, e_isnn, e_ns1, e_ns2, e_nns1, e_nns2, e_no1, e_no2, e_no3, e_no4, e_int1, e_int2, e_run, e_endn, e_endr, e_endx, e_start, e_w0, e_w1, e_frz, e_kfr, e_kfrb, e_name, e_namest, e_namesl, e_all0, e_all1, e_ktupt, e_ktupl, e_ktc, e_ktcons, e_ktnil, e_yes, e_scs, e_sc1, e_sc2, e_sc3, e_sc4, e_itl, e_itt, e_lca, e_lc, e_klc, e_l0, e_l1, e_kl1, e_kl2t, e_kl2f, e_kl3, e_lp0, e_lp1, e_klp, e_klpn, e_klpr, ok_bind, bind_exc, bind_stuck, fz_d, fz_l, fz_ll, oOf_some, noX_k, eqD_ii, neD_ii, eqD_in, neD_in, eqD_ss, gle, glt, mulL, mulR, divP, modP, rng1P, rng2P, at0, at1, at2, at3, at4, atm1a, atm1b, atm1c, atm1s, cut_tail, decide_true, decide_false, Bool.and_true, Bool.true_and, Bool.and_false, Bool.false_and, Bool.or_true, Bool.or_false, Bool.true_or, Bool.false_or, List.map_cons, List.map_nil, List.length_cons, List.length_nil, List.replicate, List.cons_append, List.nil_append, List.getElem?_cons_zero, List.getElem?_cons_succ, List.set_cons_zero, List.set_cons_succ, List.set_nil, Nat.reduceAdd, Nat.reduceSub, Nat.reduceLeDiff, Nat.reduceLT, guard_tt, ↓reduceIte, Bool.false_eq_true, Bool.not_true, Bool.not_false, Nat.zero_add, den_read_x1_s1, gin_let, hl, s_M, s_row, eq_str, mkS_beq, sD1, fS_fz, wD_nil, hF, eq_bb, e_fldm, fld_at, d0, d1]
theorem at_last (G : List (List Sn)) (w : List Sn) : atI ((wD (G ++ [w])).map D.lst) (-1) = some (.lst (w.map snD)) := by
  have h : (wD (G ++ [w])).map D.lst = ((wD G).map D.lst) ++ [.lst (w.map snD)] := by unfold wD; rw [List.map_append, List.map_append]; rfl
  rw [h]; exact atm1s _ _
theorem turn_s2 (T : List Nat) (a c : Nat) (F : List (List Sn)) (b : Bool) (hF : F.length ≤ 40) (hb : b = false → F ≠ []) (hw : ∀ w ∈ F, w.length ≤ 1000) (x5 x6 x7 x8 : Option S) :
    den_read_x1_s2 (rho T a F (some (.d (.str (mkS [c])))) (some (.d (.bl (isLet c && ((c == 77) == b))))) x5 x6 x7 x8) =
      if badLet b F c = true then refO a else .ok (.next (rho T a F (some (.d (.str (mkS [c])))) (some (.d (.bl (isLet c && ((c == 77) == b))))) x5 x6 x7 x8)) := by
  unfold badLet
  have hlen : ((wD F).map D.lst).length = F.length := by rw [List.length_map, wD_len]
  cases hg : (isLet c && ((c == 77) == b)) with
  | false => simp (maxSteps := 2000000) (disch := omega) only [e_lend, e_lend1, e_lend2, e_lend3, e_lend4, e_lend5, e_lend6, e_oixx, e_oixx1, e_oixx2, e_oixx3, e_oixx4, e_sets, e_sets0, e_sets1, e_sets2, e_sets3, e_sets4, e_sets5, e_sets6, e_appall, e_all_0, e_all_1, e_all_2, e_lclA, e_lcl, e_klcl, e_joind, e_joins, e_revrd, e_addb, e_lstb, e_klstb, e_fld, e_kfld, e_meth, e_kmeth, e_kmethb, e_make, e_mko, e_init, e_kini, e_kinib, e_kinic, e_alld0, e_alld1, e_alld2, e_starti, e_flds2, e_kf1, e_kf2, e_seq, e_seqn, e_seqr, e_if, e_dif, e_ift, e_iff, e_ret, e_kret, e_retv, e_kretv, e_retn, e_asg, e_kasg, e_asge, e_kasge, e_drop, e_kdrop, e_next, e_exc, e_muts, e_mutb, e_mut, e_kmut, e_app, e_ext, e_ins, e_setb, e_kset, e_set, e_set0, e_nx, e_unp, e_kunp, e_par, e_kpar, e_par3, e_kpar3, e_for, e_kfor, e_while, e_try, e_tryk, e_tryx, e_appb, e_kappl, e_appl, e_app0, e_llof1, e_llof2, e_m2d, e_m2c, e_m2, e_m2a, e_c, e_v, e_kv, e_own, e_kown, e_vs, e_kvs1, e_kvs2, e_kvs3, e_kix, e_oix, e_koix1, e_koix2, e_oit, e_koit1, e_koit2, e_2b, e_2, e_k2, e_1, e_k1, e_a, e_tos, e_ktos, e_anil, e_consb, e_acons, e_scons, e_kcons, e_snil, e_tup, e_ktup, e_lst, e_klst, e_slcb, e_slca, e_slc, e_kslc, e_slc1, e_slc2, e_slc3, e_ono, e_oso, e_koso, e_and, e_andt, e_andf, e_or, e_ort, e_orf, e_not, e_knot, e_andv, e_orv, e_kandv, e_korv, e_andwt, e_andwf, e_orwt, e_orwf, e_chdt, e_chdf, e_chc, e_chb, e_ch, e_kch, e_tob, e_notd, e_knotd, e_neg, e_add, e_addt, e_adds, e_sub, e_lt, e_le, e_gt, e_ge, e_ixl, e_ixt, e_ixs, e_ixr, e_trn, e_trb, e_tri, e_trl, e_trt, e_trs, e_trr, e_lenl, e_lent, e_lens, e_lenr, e_abs, e_max, e_min, e_cat, e_list1, e_list2, e_tuple1, e_tuple2, e_isn, e_isnn, e_ns1, e_ns2, e_nns1, e_nns2, e_no1, e_no2, e_no3, e_no4, e_int1, e_int2, e_run, e_endn, e_endr, e_endx, e_start, e_w0, e_w1, e_frz, e_kfr, e_kfrb, e_name, e_namest, e_namesl, e_all0, e_all1, e_ktupt, e_ktupl, e_ktc, e_ktcons, e_ktnil, e_yes, e_scs, e_sc1, e_sc2, e_sc3, e_sc4, e_itl, e_itt, e_lca, e_lc, e_klc, e_l0, e_l1, e_kl1, e_kl2t, e_kl2f, e_kl3, e_lp0, e_lp1, e_klp, e_klpn, e_klpr, ok_bind, bind_exc, bind_stuck, fz_d, fz_l, fz_ll, oOf_some, noX_k, eqD_ii, neD_ii, eqD_in, neD_in, eqD_ss, gle, glt, mulL, mulR, divP, modP, rng1P, rng2P, at0, at1, at2, at3, at4, atm1a, atm1b, atm1c, atm1s, cut_tail, decide_true, decide_false, Bool.and_true, Bool.true_and, Bool.and_false, Bool.false_and, Bool.or_true, Bool.or_false, Bool.true_or, Bool.false_or, List.map_cons, List.map_nil, List.length_cons, List.length_nil, List.replicate, List.cons_append, List.nil_append, List.getElem?_cons_zero, List.getElem?_cons_succ, List.set_cons_zero, List.set_cons_succ, List.set_nil, Nat.reduceAdd, Nat.reduceSub, Nat.reduceLeDiff, Nat.reduceLT, guard_tt, ↓reduceIte, Bool.false_eq_true, Bool.not_true, Bool.not_false, Nat.zero_add, den_read_x1_s2, e_stuck, refO]
  | true =>
    cases hc : (c == 77) with
    | true =>
      have d40 : ((F.length : Int) == 40) = (F.length == 40) := by
        by_cases q : F.length = 40
        · rw [q]; rfl
        · have : ¬ (F.length : Int) = 40 := by omega
          simp only [beq_eq_false_iff_ne.mpr q, beq_eq_false_iff_ne.mpr this]
      have l40 : ((F.length : Nat) : Int) = (F.length : Int) := rfl
      cases h40 : (F.length == 40) with
      | true => simp (maxSteps := 2000000) (disch := omega) only [e_lend, e_lend1, e_lend2, e_lend3, e_lend4, e_lend5, e_lend6, e_oixx, e_oixx1, e_oixx2, e_oixx3, e_oixx4, e_sets, e_sets0, e_sets1, e_sets2, e_sets3, e_sets4, e_sets5, e_sets6, e_appall, e_all_0, e_all_1, e_all_2, e_lclA, e_lcl, e_klcl, e_joind, e_joins, e_revrd, e_addb, e_lstb, e_klstb, e_fld, e_kfld, e_meth, e_kmeth, e_kmethb, e_make, e_mko, e_init, e_kini, e_kinib, e_kinic, e_alld0, e_alld1, e_alld2, e_starti, e_flds2, e_kf1, e_kf2, e_seq, e_seqn, e_seqr, e_if, e_dif, e_ift, e_iff, e_ret, e_kret, e_retv, e_kretv, e_retn, e_asg, e_kasg, e_asge, e_kasge, e_drop, e_kdrop, e_next, e_exc, e_muts, e_mutb, e_mut, e_kmut, e_app, e_ext, e_ins, e_setb, e_kset, e_set, e_set0, e_nx, e_unp, e_kunp, e_par, e_kpar, e_par3, e_kpar3, e_for, e_kfor, e_while, e_try, e_tryk, e_tryx, e_appb, e_kappl, e_appl, e_app0, e_llof1, e_llof2, e_m2d, e_m2c, e_m2, e_m2a, e_c, e_v, e_kv, e_own, e_kown, e_vs, e_kvs1, e_kvs2, e_kvs3, e_kix, e_oix, e_koix1, e_koix2, e_oit, e_koit1, e_koit2, e_2b, e_2, e_k2, e_1, e_k1, e_a, e_tos, e_ktos, e_anil, e_consb, e_acons, e_scons, e_kcons, e_snil, e_tup, e_ktup, e_lst, e_klst, e_slcb, e_slca, e_slc, e_kslc, e_slc1, e_slc2, e_slc3, e_ono, e_oso, e_koso, e_and, e_andt, e_andf, e_or, e_ort, e_orf, e_not, e_knot, e_andv, e_orv, e_kandv, e_korv, e_andwt, e_andwf, e_orwt, e_orwf, e_chdt, e_chdf, e_chc, e_chb, e_ch, e_kch, e_tob, e_notd, e_knotd, e_neg, e_add, e_addt, e_adds, e_sub, e_lt, e_le, e_gt, e_ge, e_ixl, e_ixt, e_ixs, e_ixr, e_trn, e_trb, e_tri, e_trl, e_trt, e_trs, e_trr, e_lenl, e_lent, e_lens, e_lenr, e_abs, e_max, e_min, e_cat, e_list1, e_list2, e_tuple1, e_tuple2, e_isn, e_isnn, e_ns1, e_ns2, e_nns1, e_nns2, e_no1, e_no2, e_no3, e_no4, e_int1, e_int2, e_run, e_endn, e_endr, e_endx, e_start, e_w0, e_w1, e_frz, e_kfr, e_kfrb, e_name, e_namest, e_namesl, e_all0, e_all1, e_ktupt, e_ktupl, e_ktc, e_ktcons, e_ktnil, e_yes, e_scs, e_sc1, e_sc2, e_sc3, e_sc4, e_itl, e_itt, e_lca, e_lc, e_klc, e_l0, e_l1, e_kl1, e_kl2t, e_kl2f, e_kl3, e_lp0, e_lp1, e_klp, e_klpn, e_klpr, ok_bind, bind_exc, bind_stuck, fz_d, fz_l, fz_ll, oOf_some, noX_k, eqD_ii, neD_ii, eqD_in, neD_in, eqD_ss, gle, glt, mulL, mulR, divP, modP, rng1P, rng2P, at0, at1, at2, at3, at4, atm1a, atm1b, atm1c, atm1s, cut_tail, decide_true, decide_false, Bool.and_true, Bool.true_and, Bool.and_false, Bool.false_and, Bool.or_true, Bool.or_false, Bool.true_or, Bool.false_or, List.map_cons, List.map_nil, List.length_cons, List.length_nil, List.replicate, List.cons_append, List.nil_append, List.getElem?_cons_zero, List.getElem?_cons_succ, List.set_cons_zero, List.set_cons_succ, List.set_nil, Nat.reduceAdd, Nat.reduceSub, Nat.reduceLeDiff, Nat.reduceLT, guard_tt, ↓reduceIte, Bool.false_eq_true, Bool.not_true, Bool.not_false, Nat.zero_add, den_read_x1_s2, e_stuck, refO, s_M, eq_str, mkS_beq, ne_str', sD1, hc, fS_fz, hlen, guard_t (show F.length ≤ cap by unfold cap; omega), d40, h40]
      | false => simp (maxSteps := 2000000) (disch := omega) only [e_lend, e_lend1, e_lend2, e_lend3, e_lend4, e_lend5, e_lend6, e_oixx, e_oixx1, e_oixx2, e_oixx3, e_oixx4, e_sets, e_sets0, e_sets1, e_sets2, e_sets3, e_sets4, e_sets5, e_sets6, e_appall, e_all_0, e_all_1, e_all_2, e_lclA, e_lcl, e_klcl, e_joind, e_joins, e_revrd, e_addb, e_lstb, e_klstb, e_fld, e_kfld, e_meth, e_kmeth, e_kmethb, e_make, e_mko, e_init, e_kini, e_kinib, e_kinic, e_alld0, e_alld1, e_alld2, e_starti, e_flds2, e_kf1, e_kf2, e_seq, e_seqn, e_seqr, e_if, e_dif, e_ift, e_iff, e_ret, e_kret, e_retv, e_kretv, e_retn, e_asg, e_kasg, e_asge, e_kasge, e_drop, e_kdrop, e_next, e_exc, e_muts, e_mutb, e_mut, e_kmut, e_app, e_ext, e_ins, e_setb, e_kset, e_set, e_set0, e_nx, e_unp, e_kunp, e_par, e_kpar, e_par3, e_kpar3, e_for, e_kfor, e_while, e_try, e_tryk, e_tryx, e_appb, e_kappl, e_appl, e_app0, e_llof1, e_llof2, e_m2d, e_m2c, e_m2, e_m2a, e_c, e_v, e_kv, e_own, e_kown, e_vs, e_kvs1, e_kvs2, e_kvs3, e_kix, e_oix, e_koix1, e_koix2, e_oit, e_koit1, e_koit2, e_2b, e_2, e_k2, e_1, e_k1, e_a, e_tos, e_ktos, e_anil, e_consb, e_acons, e_scons, e_kcons, e_snil, e_tup, e_ktup, e_lst, e_klst, e_slcb, e_slca, e_slc, e_kslc, e_slc1, e_slc2, e_slc3, e_ono, e_oso, e_koso, e_and, e_andt, e_andf, e_or, e_ort, e_orf, e_not, e_knot, e_andv, e_orv, e_kandv, e_korv, e_andwt, e_andwf, e_orwt, e_orwf, e_chdt, e_chdf, e_chc, e_chb, e_ch, e_kch, e_tob, e_notd, e_knotd, e_neg, e_add, e_addt, e_adds, e_sub, e_lt, e_le, e_gt, e_ge, e_ixl, e_ixt, e_ixs, e_ixr, e_trn, e_trb, e_tri, e_trl, e_trt, e_trs, e_trr, e_lenl, e_lent, e_lens, e_lenr, e_abs, e_max, e_min, e_cat, e_list1, e_list2, e_tuple1, e_tuple2, e_isn, e_isnn, e_ns1, e_ns2, e_nns1, e_nns2, e_no1, e_no2, e_no3, e_no4, e_int1, e_int2, e_run, e_endn, e_endr, e_endx, e_start, e_w0, e_w1, e_frz, e_kfr, e_kfrb, e_name, e_namest, e_namesl, e_all0, e_all1, e_ktupt, e_ktupl, e_ktc, e_ktcons, e_ktnil, e_yes, e_scs, e_sc1, e_sc2, e_sc3, e_sc4, e_itl, e_itt, e_lca, e_lc, e_klc, e_l0, e_l1, e_kl1, e_kl2t, e_kl2f, e_kl3, e_lp0, e_lp1, e_klp, e_klpn, e_klpr, ok_bind, bind_exc, bind_stuck, fz_d, fz_l, fz_ll, oOf_some, noX_k, eqD_ii, neD_ii, eqD_in, neD_in, eqD_ss, gle, glt, mulL, mulR, divP, modP, rng1P, rng2P, at0, at1, at2, at3, at4, atm1a, atm1b, atm1c, atm1s, cut_tail, decide_true, decide_false, Bool.and_true, Bool.true_and, Bool.and_false, Bool.false_and, Bool.or_true, Bool.or_false, Bool.true_or, Bool.false_or, List.map_cons, List.map_nil, List.length_cons, List.length_nil, List.replicate, List.cons_append, List.nil_append, List.getElem?_cons_zero, List.getElem?_cons_succ, List.set_cons_zero, List.set_cons_succ, List.set_nil, Nat.reduceAdd, Nat.reduceSub, Nat.reduceLeDiff, Nat.reduceLT, guard_tt, ↓reduceIte, Bool.false_eq_true, Bool.not_true, Bool.not_false, Nat.zero_add, den_read_x1_s2, e_stuck, refO, s_M, eq_str, mkS_beq, ne_str', sD1, hc, fS_fz, hlen, guard_t (show F.length ≤ cap by unfold cap; omega), d40, h40, bne]
    | false =>
      have bf : b = false := by
        rw [hc] at hg
        cases b with
        | false => rfl
        | true => simp at hg
      have hne := hb bf
      obtain ⟨G, w, rfl⟩ : ∃ G w, F = G ++ [w] := ⟨F.dropLast, F.getLast hne, (List.dropLast_concat_getLast hne).symm⟩
      have hw' := hw w (by simp)
      rw [lastLen_app]
      have hl2 : (w.map snD).length = w.length := List.length_map _
      have d200 : ((w.length : Int) == 200) = (w.length == 200) := by
        by_cases q : w.length = 200
        · rw [q]; rfl
        · have : ¬ (w.length : Int) = 200 := by omega
          simp only [beq_eq_false_iff_ne.mpr q, beq_eq_false_iff_ne.mpr this]
      cases h200 : (w.length == 200) with
      | true => simp (maxSteps := 2000000) (disch := omega) only [e_lend, e_lend1, e_lend2, e_lend3, e_lend4, e_lend5, e_lend6, e_oixx, e_oixx1, e_oixx2, e_oixx3, e_oixx4, e_sets, e_sets0, e_sets1, e_sets2, e_sets3, e_sets4, e_sets5, e_sets6, e_appall, e_all_0, e_all_1, e_all_2, e_lclA, e_lcl, e_klcl, e_joind, e_joins, e_revrd, e_addb, e_lstb, e_klstb, e_fld, e_kfld, e_meth, e_kmeth, e_kmethb, e_make, e_mko, e_init, e_kini, e_kinib, e_kinic, e_alld0, e_alld1, e_alld2, e_starti, e_flds2, e_kf1, e_kf2, e_seq, e_seqn, e_seqr, e_if, e_dif, e_ift, e_iff, e_ret, e_kret, e_retv, e_kretv, e_retn, e_asg, e_kasg, e_asge, e_kasge, e_drop, e_kdrop, e_next, e_exc, e_muts, e_mutb, e_mut, e_kmut, e_app, e_ext, e_ins, e_setb, e_kset, e_set, e_set0, e_nx, e_unp, e_kunp, e_par, e_kpar, e_par3, e_kpar3, e_for, e_kfor, e_while, e_try, e_tryk, e_tryx, e_appb, e_kappl, e_appl, e_app0, e_llof1, e_llof2, e_m2d, e_m2c, e_m2, e_m2a, e_c, e_v, e_kv, e_own, e_kown, e_vs, e_kvs1, e_kvs2, e_kvs3, e_kix, e_oix, e_koix1, e_koix2, e_oit, e_koit1, e_koit2, e_2b, e_2, e_k2, e_1, e_k1, e_a, e_tos, e_ktos, e_anil, e_consb, e_acons, e_scons, e_kcons, e_snil, e_tup, e_ktup, e_lst, e_klst, e_slcb, e_slca, e_slc, e_kslc, e_slc1, e_slc2, e_slc3, e_ono, e_oso, e_koso, e_and, e_andt, e_andf, e_or, e_ort, e_orf, e_not, e_knot, e_andv, e_orv, e_kandv, e_korv, e_andwt, e_andwf, e_orwt, e_orwf, e_chdt, e_chdf, e_chc, e_chb, e_ch, e_kch, e_tob, e_notd, e_knotd, e_neg, e_add, e_addt, e_adds, e_sub, e_lt, e_le, e_gt, e_ge, e_ixl, e_ixt, e_ixs, e_ixr, e_trn, e_trb, e_tri, e_trl, e_trt, e_trs, e_trr, e_lenl, e_lent, e_lens, e_lenr, e_abs, e_max, e_min, e_cat, e_list1, e_list2, e_tuple1, e_tuple2, e_isn, e_isnn, e_ns1, e_ns2, e_nns1, e_nns2, e_no1, e_no2, e_no3, e_no4, e_int1, e_int2, e_run, e_endn, e_endr, e_endx, e_start, e_w0, e_w1, e_frz, e_kfr, e_kfrb, e_name, e_namest, e_namesl, e_all0, e_all1, e_ktupt, e_ktupl, e_ktc, e_ktcons, e_ktnil, e_yes, e_scs, e_sc1, e_sc2, e_sc3, e_sc4, e_itl, e_itt, e_lca, e_lc, e_klc, e_l0, e_l1, e_kl1, e_kl2t, e_kl2f, e_kl3, e_lp0, e_lp1, e_klp, e_klpn, e_klpr, ok_bind, bind_exc, bind_stuck, fz_d, fz_l, fz_ll, oOf_some, noX_k, eqD_ii, neD_ii, eqD_in, neD_in, eqD_ss, gle, glt, mulL, mulR, divP, modP, rng1P, rng2P, at0, at1, at2, at3, at4, atm1a, atm1b, atm1c, atm1s, cut_tail, decide_true, decide_false, Bool.and_true, Bool.true_and, Bool.and_false, Bool.false_and, Bool.or_true, Bool.or_false, Bool.true_or, Bool.false_or, List.map_cons, List.map_nil, List.length_cons, List.length_nil, List.replicate, List.cons_append, List.nil_append, List.getElem?_cons_zero, List.getElem?_cons_succ, List.set_cons_zero, List.set_cons_succ, List.set_nil, Nat.reduceAdd, Nat.reduceSub, Nat.reduceLeDiff, Nat.reduceLT, guard_tt, ↓reduceIte, Bool.false_eq_true, Bool.not_true, Bool.not_false, Nat.zero_add, den_read_x1_s2, e_stuck, refO, s_M, eq_str, mkS_beq, ne_str', sD1, hc, fS_fz, hlen, at_last, hl2, guard_t (show w.length ≤ cap by unfold cap; omega), d200, h200, bne]
      | false => simp (maxSteps := 2000000) (disch := omega) only [e_lend, e_lend1, e_lend2, e_lend3, e_lend4, e_lend5, e_lend6, e_oixx, e_oixx1, e_oixx2, e_oixx3, e_oixx4, e_sets, e_sets0, e_sets1, e_sets2, e_sets3, e_sets4, e_sets5, e_sets6, e_appall, e_all_0, e_all_1, e_all_2, e_lclA, e_lcl, e_klcl, e_joind, e_joins, e_revrd, e_addb, e_lstb, e_klstb, e_fld, e_kfld, e_meth, e_kmeth, e_kmethb, e_make, e_mko, e_init, e_kini, e_kinib, e_kinic, e_alld0, e_alld1, e_alld2, e_starti, e_flds2, e_kf1, e_kf2, e_seq, e_seqn, e_seqr, e_if, e_dif, e_ift, e_iff, e_ret, e_kret, e_retv, e_kretv, e_retn, e_asg, e_kasg, e_asge, e_kasge, e_drop, e_kdrop, e_next, e_exc, e_muts, e_mutb, e_mut, e_kmut, e_app, e_ext, e_ins, e_setb, e_kset, e_set, e_set0, e_nx, e_unp, e_kunp, e_par, e_kpar, e_par3, e_kpar3, e_for, e_kfor, e_while, e_try, e_tryk, e_tryx, e_appb, e_kappl, e_appl, e_app0, e_llof1, e_llof2, e_m2d, e_m2c, e_m2, e_m2a, e_c, e_v, e_kv, e_own, e_kown, e_vs, e_kvs1, e_kvs2, e_kvs3, e_kix, e_oix, e_koix1, e_koix2, e_oit, e_koit1, e_koit2, e_2b, e_2, e_k2, e_1, e_k1, e_a, e_tos, e_ktos, e_anil, e_consb, e_acons, e_scons, e_kcons, e_snil, e_tup, e_ktup, e_lst, e_klst, e_slcb, e_slca, e_slc, e_kslc, e_slc1, e_slc2, e_slc3, e_ono, e_oso, e_koso, e_and, e_andt, e_andf, e_or, e_ort, e_orf, e_not, e_knot, e_andv, e_orv, e_kandv, e_korv, e_andwt, e_andwf, e_orwt, e_orwf, e_chdt, e_chdf, e_chc, e_chb, e_ch, e_kch, e_tob, e_notd, e_knotd, e_neg, e_add, e_addt, e_adds, e_sub, e_lt, e_le, e_gt, e_ge, e_ixl, e_ixt, e_ixs, e_ixr, e_trn, e_trb, e_tri, e_trl, e_trt, e_trs, e_trr, e_lenl, e_lent, e_lens, e_lenr, e_abs, e_max, e_min, e_cat, e_list1, e_list2, e_tuple1, e_tuple2, e_isn, e_isnn, e_ns1, e_ns2, e_nns1, e_nns2, e_no1, e_no2, e_no3, e_no4, e_int1, e_int2, e_run, e_endn, e_endr, e_endx, e_start, e_w0, e_w1, e_frz, e_kfr, e_kfrb, e_name, e_namest, e_namesl, e_all0, e_all1, e_ktupt, e_ktupl, e_ktc, e_ktcons, e_ktnil, e_yes, e_scs, e_sc1, e_sc2, e_sc3, e_sc4, e_itl, e_itt, e_lca, e_lc, e_klc, e_l0, e_l1, e_kl1, e_kl2t, e_kl2f, e_kl3, e_lp0, e_lp1, e_klp, e_klpn, e_klpr, ok_bind, bind_exc, bind_stuck, fz_d, fz_l, fz_ll, oOf_some, noX_k, eqD_ii, neD_ii, eqD_in, neD_in, eqD_ss, gle, glt, mulL, mulR, divP, modP, rng1P, rng2P, at0, at1, at2, at3, at4, atm1a, atm1b, atm1c, atm1s, cut_tail, decide_true, decide_false, Bool.and_true, Bool.true_and, Bool.and_false, Bool.false_and, Bool.or_true, Bool.or_false, Bool.true_or, Bool.false_or, List.map_cons, List.map_nil, List.length_cons, List.length_nil, List.replicate, List.cons_append, List.nil_append, List.getElem?_cons_zero, List.getElem?_cons_succ, List.set_cons_zero, List.set_cons_succ, List.set_nil, Nat.reduceAdd, Nat.reduceSub, Nat.reduceLeDiff, Nat.reduceLT, guard_tt, ↓reduceIte, Bool.false_eq_true, Bool.not_true, Bool.not_false, Nat.zero_add, den_read_x1_s2, e_stuck, refO, s_M, eq_str, mkS_beq, ne_str', sD1, hc, fS_fz, hlen, at_last, hl2, guard_t (show w.length ≤ cap by unfold cap; omega), d200, h200, bne]
/-! ### the numbers of a step -/
def numsO (T : List Nat) (a : Nat) (F : List (List Sn)) (x3 x4 x5 x7 x8 : Option S) : RdL → Out (Env × List D)
  | .bad p => refO (a + p)
  | .ok k vs => .ok (rho T (a + k) F x3 x4 x5 none x7 x8, vs.map .int)
theorem nums_lc (T : List Nat) (F : List (List Sn)) (hT : T.length ≤ 50000) (x3 x4 x5 x7 x8 : Option S) : ∀ (ds : List D) (a : Nat),
    lcX (kName 6) (xMeth 1 "Signs" "number" mo_Signs_number) [6] ds (rho T a F x3 x4 x5 none x7 x8) = numsO T a F x3 x4 x5 x7 x8 (rdNums ds.length (T.drop a))
  | [], a => rfl
  | d :: ds, a => by
    have hn := number_spec T a hT
    have e1 : kName 6 d (rho T a F x3 x4 x5 none x7 x8) = .ok (rho T a F x3 x4 x5 (some (.d d)) x7 x8) := rfl
    have e2 : xMeth 1 "Signs" "number" mo_Signs_number (rho T a F x3 x4 x5 (some (.d d)) x7 x8) = (mo_Signs_number (signs T a)).bind (kXm 1 "Signs" (rho T a F x3 x4 x5 (some (.d d)) x7 x8)) := by
      rw [e_xmeth]; exact e_kmethx (sg_number T a)
    unfold lcX
    rw [e1, noX_k, ok_bind, e2, hn, List.length_cons]
    show _ = numsO T a F x3 x4 x5 x7 x8 (rdNext (rdNums ds.length) (T.drop a) (rdNum (T.drop a)))
    cases q : rdNum (T.drop a) with
    | bad p => rfl
    | ok k v =>
      have e3 : (numO T a (.ok k v)).bind (kXm 1 "Signs" (rho T a F x3 x4 x5 (some (.d d)) x7 x8)) = .ok (rho T (a + k) F x3 x4 x5 (some (.d d)) x7 x8, .int v) := rfl
      rw [e3, noX_k, ok_bind]
      have e4 : wipeE (rho T (a + k) F x3 x4 x5 (some (.d d)) x7 x8) [6] = rho T (a + k) F x3 x4 x5 none x7 x8 := rfl
      show (lcX _ _ [6] ds (wipeE (rho T (a + k) F x3 x4 x5 (some (.d d)) x7 x8) [6])).bind _ = _
      rw [e4, nums_lc T F hT x3 x4 x5 x7 x8 ds (a + k)]
      show _ = numsO T a F x3 x4 x5 x7 x8 (rdPut k v (rdNums ds.length ((T.drop a).drop k)))
      rw [List.drop_drop]
      cases rdNums ds.length (T.drop (a + k)) with
      | bad p =>
        show refO (a + k + p) = refO (a + (k + p))
        rw [Nat.add_assoc]
      | ok k' vs =>
        show Out.ok (rho T (a + k + k') F x3 x4 x5 none x7 x8, D.int v :: vs.map D.int) = Out.ok (rho T (a + (k + k')) F x3 x4 x5 none x7 x8, (v :: vs).map D.int)
        rw [Nat.add_assoc]; rfl
def stepO (T : List Nat) (a c : Nat) (F : List (List Sn)) (x3 x4 x5 x8 : Option S) : RdL → Out Res
  | .bad p => refO (a + p)
  | .ok k vs => .ok (.next (rho T (a + k) F x3 x4 x5 none (some (.d (snD (c, vs)))) x8))
theorem rdNums_len : ∀ (n : Nat) (R : List Nat) (k : Nat) (vs : List Int), rdNums n R = .ok k vs → vs.length = n
  | 0, R, k, vs, h => by cases h; rfl
  | n + 1, R, k, vs, h => by
    have h : rdNext (rdNums n) R (rdNum R) = .ok k vs := h
    cases q : rdNum R with
    | bad p => rw [q] at h; cases h
    | ok k1 v =>
      rw [q] at h
      have h : rdPut k1 v (rdNums n (R.drop k1)) = .ok k vs := h
      cases z : rdNums n (R.drop k1) with
      | bad p => rw [z] at h; cases h
      | ok k2 ws =>
        rw [z] at h
        have h : RdL.ok (k1 + k2) (v :: ws) = .ok k vs := h
        cases h
        rw [List.length_cons, rdNums_len n _ k2 ws z]
theorem turn_s5 (T : List Nat) (a c : Nat) (F : List (List Sn)) (hT : T.length ≤ 50000) (hc : isLet c = true) (x3 x4 x7 x8 : Option S) :
    den_read_x1_s5 (rho T a F x3 x4 (some (.d (.str (wl c)))) none x7 x8) = stepO T a c F x3 x4 (some (.d (.str (wl c)))) x8 (rdNums (cnt c) (T.drop a)) := by
  have hcnt : cnt c = 2 ∨ cnt c = 4 := by unfold cnt; split <;> simp
  have hr : -1000000000 ≤ (cnt c : Int) ∧ (cnt c : Int) ≤ 1000000000 := by omega
  have e1 : ((cnt c : Nat) : Int) + 1 - 1 = ((cnt c : Nat) : Int) := by omega
  have hl : (rngL 0 (cnt c)).length = cnt c := rngL_len _ _
  have hn := nums_lc T F hT x3 x4 (some (.d (.str (wl c)))) x7 x8 (rngL 0 (cnt c)) a
  rw [hl] at hn
  have hw : wipeE (rho T a F x3 x4 (some (.d (.str (wl c)))) none x7 x8) [6] = rho T a F x3 x4 (some (.d (.str (wl c)))) none x7 x8 := rfl
  generalize hR : rho T a F x3 x4 (some (.d (.str (wl c)))) none x7 x8 = ρ at *
  have h5 : ρ[5]? = some (some (.d (.str (wl c)))) := by rw [← hR]; rfl
  cases q : rdNums (cnt c) (T.drop a) with
  | bad p =>
    rw [q] at hn
    have hn : lcX (kName 6) (xMeth 1 "Signs" "number" mo_Signs_number) [6] (rngL 0 (cnt c)) ρ = refO (a + p) := hn
    simp (maxSteps := 2000000) (disch := omega) only [e_lend, e_lend1, e_lend2, e_lend3, e_lend4, e_lend5, e_lend6, e_oixx, e_oixx1, e_oixx2, e_oixx3, e_oixx4, e_sets, e_sets0, e_sets1, e_sets2, e_sets3, e_sets4, e_sets5, e_sets6, e_appall, e_all_0, e_all_1, e_all_2, e_lclA, e_lcl, e_klcl, e_joind, e_joins, e_revrd, e_addb, e_lstb, e_klstb, e_fld, e_kfld, e_meth, e_kmeth, e_kmethb, e_make, e_mko, e_init, e_kini, e_kinib, e_kinic, e_alld0, e_alld1, e_alld2, e_starti, e_flds2, e_kf1, e_kf2, e_seq, e_seqn, e_seqr, e_if, e_dif, e_ift, e_iff, e_ret, e_kret, e_retv, e_kretv, e_retn, e_asg, e_kasg, e_asge, e_kasge, e_drop, e_kdrop, e_next, e_exc, e_muts, e_mutb, e_mut, e_kmut, e_app, e_ext, e_ins, e_setb, e_kset, e_set, e_set0, e_nx, e_unp, e_kunp, e_par, e_kpar, e_par3, e_kpar3, e_for, e_kfor, e_while, e_try, e_tryk, e_tryx, e_appb, e_kappl, e_appl, e_app0, e_llof1, e_llof2, e_m2d, e_m2c, e_m2, e_m2a, e_c, e_v, e_kv, e_own, e_kown, e_vs, e_kvs1, e_kvs2, e_kvs3, e_kix, e_oix, e_koix1, e_koix2, e_oit, e_koit1, e_koit2, e_2b, e_2, e_k2, e_1, e_k1, e_a, e_tos, e_ktos, e_anil, e_consb, e_acons, e_scons, e_kcons, e_snil, e_tup, e_ktup, e_lst, e_klst, e_slcb, e_slca, e_slc, e_kslc, e_slc1, e_slc2, e_slc3, e_ono, e_oso, e_koso, e_and, e_andt, e_andf, e_or, e_ort, e_orf, e_not, e_knot, e_andv, e_orv, e_kandv, e_korv, e_andwt, e_andwf, e_orwt, e_orwf, e_chdt, e_chdf, e_chc, e_chb, e_ch, e_kch, e_tob, e_notd, e_knotd, e_neg, e_add, e_addt, e_adds, e_sub, e_lt, e_le, e_gt, e_ge, e_ixl, e_ixt, e_ixs, e_ixr, e_trn, e_trb, e_tri, e_trl, e_trt, e_trs, e_trr, e_lenl, e_lent, e_lens, e_lenr, e_abs, e_max, e_min, e_cat, e_list1, e_list2, e_tuple1, e_tuple2, e_isn, e_isnn, e_ns1, e_ns2, e_nns1, e_nns2, e_no1, e_no2, e_no3, e_no4, e_int1, e_int2, e_run, e_endn, e_endr, e_endx, e_start, e_w0, e_w1, e_frz, e_kfr, e_kfrb, e_name, e_namest, e_namesl, e_all0, e_all1, e_ktupt, e_ktupl, e_ktc, e_ktcons, e_ktnil, e_yes, e_scs, e_sc1, e_sc2, e_sc3, e_sc4, e_itl, e_itt, e_lca, e_lc, e_klc, e_l0, e_l1, e_kl1, e_kl2t, e_kl2f, e_kl3, e_lp0, e_lp1, e_klp, e_klpn, e_klpr, ok_bind, bind_exc, bind_stuck, fz_d, fz_l, fz_ll, oOf_some, noX_k, eqD_ii, neD_ii, eqD_in, neD_in, eqD_ss, gle, glt, mulL, mulR, divP, modP, rng1P, rng2P, at0, at1, at2, at3, at4, atm1a, atm1b, atm1c, atm1s, cut_tail, decide_true, decide_false, Bool.and_true, Bool.true_and, Bool.and_false, Bool.false_and, Bool.or_true, Bool.or_false, Bool.true_or, Bool.false_or, List.map_cons, List.map_nil, List.length_cons, List.length_nil, List.replicate, List.cons_append, List.nil_append, List.getElem?_cons_zero, List.getElem?_cons_succ, List.set_cons_zero, List.set_cons_succ, List.set_nil, Nat.reduceAdd, Nat.reduceSub, Nat.reduceLeDiff, Nat.reduceLT, guard_tt, ↓reduceIte, Bool.false_eq_true, Bool.not_true, Bool.not_false, Nat.zero_add, den_read_x1_s5, e_asgx, e_xadd, h5, gix_cnt hc, e_kxa0, e_xtuple, e_xlc, e1, rng1_i hr, Int.toNat_natCast, e_klcx, hl, guard_t (show cnt c ≤ cap by unfold cap; omega), hw, hn, refO_bind, stepO]
  | ok k vs =>
    rw [q] at hn
    have hv := rdNums_len _ _ _ _ q
    have hn : lcX (kName 6) (xMeth 1 "Signs" "number" mo_Signs_number) [6] (rngL 0 (cnt c)) ρ = .ok (rho T (a + k) F x3 x4 (some (.d (.str (wl c)))) none x7 x8, vs.map .int) := hn
    have hx : addD (.tup [.str (wl c)]) (.tup (vs.map .int)) = .ok (snD (c, vs)) := by
      show guard' (1 + (vs.map D.int).length ≤ cap) _ = _
      rw [guard_t (by rw [List.length_map, hv]; unfold cap; omega)]; rfl
    simp (maxSteps := 2000000) (disch := omega) only [e_lend, e_lend1, e_lend2, e_lend3, e_lend4, e_lend5, e_lend6, e_oixx, e_oixx1, e_oixx2, e_oixx3, e_oixx4, e_sets, e_sets0, e_sets1, e_sets2, e_sets3, e_sets4, e_sets5, e_sets6, e_appall, e_all_0, e_all_1, e_all_2, e_lclA, e_lcl, e_klcl, e_joind, e_joins, e_revrd, e_addb, e_lstb, e_klstb, e_fld, e_kfld, e_meth, e_kmeth, e_kmethb, e_make, e_mko, e_init, e_kini, e_kinib, e_kinic, e_alld0, e_alld1, e_alld2, e_starti, e_flds2, e_kf1, e_kf2, e_seq, e_seqn, e_seqr, e_if, e_dif, e_ift, e_iff, e_ret, e_kret, e_retv, e_kretv, e_retn, e_asg, e_kasg, e_asge, e_kasge, e_drop, e_kdrop, e_next, e_exc, e_muts, e_mutb, e_mut, e_kmut, e_app, e_ext, e_ins, e_setb, e_kset, e_set, e_set0, e_nx, e_unp, e_kunp, e_par, e_kpar, e_par3, e_kpar3, e_for, e_kfor, e_while, e_try, e_tryk, e_tryx, e_appb, e_kappl, e_appl, e_app0, e_llof1, e_llof2, e_m2d, e_m2c, e_m2, e_m2a, e_c, e_v, e_kv, e_own, e_kown, e_vs, e_kvs1, e_kvs2, e_kvs3, e_kix, e_oix, e_koix1, e_koix2, e_oit, e_koit1, e_koit2, e_2b, e_2, e_k2, e_1, e_k1, e_a, e_tos, e_ktos, e_anil, e_consb, e_acons, e_scons, e_kcons, e_snil, e_tup, e_ktup, e_lst, e_klst, e_slcb, e_slca, e_slc, e_kslc, e_slc1, e_slc2, e_slc3, e_ono, e_oso, e_koso, e_and, e_andt, e_andf, e_or, e_ort, e_orf, e_not, e_knot, e_andv, e_orv, e_kandv, e_korv, e_andwt, e_andwf, e_orwt, e_orwf, e_chdt, e_chdf, e_chc, e_chb, e_ch, e_kch, e_tob, e_notd, e_knotd, e_neg, e_add, e_addt, e_adds, e_sub, e_lt, e_le, e_gt, e_ge, e_ixl, e_ixt, e_ixs, e_ixr, e_trn, e_trb, e_tri, e_trl, e_trt, e_trs, e_trr, e_lenl, e_lent, e_lens, e_lenr, e_abs, e_max, e_min, e_cat, e_list1, e_list2, e_tuple1, e_tuple2, e_isn, e_isnn, e_ns1, e_ns2, e_nns1, e_nns2, e_no1, e_no2, e_no3, e_no4, e_int1, e_int2, e_run, e_endn, e_endr, e_endx, e_start, e_w0, e_w1, e_frz, e_kfr, e_kfrb, e_name, e_namest, e_namesl, e_all0, e_all1, e_ktupt, e_ktupl, e_ktc, e_ktcons, e_ktnil, e_yes, e_scs, e_sc1, e_sc2, e_sc3, e_sc4, e_itl, e_itt, e_lca, e_lc, e_klc, e_l0, e_l1, e_kl1, e_kl2t, e_kl2f, e_kl3, e_lp0, e_lp1, e_klp, e_klpn, e_klpr, ok_bind, bind_exc, bind_stuck, fz_d, fz_l, fz_ll, oOf_some, noX_k, eqD_ii, neD_ii, eqD_in, neD_in, eqD_ss, gle, glt, mulL, mulR, divP, modP, rng1P, rng2P, at0, at1, at2, at3, at4, atm1a, atm1b, atm1c, atm1s, cut_tail, decide_true, decide_false, Bool.and_true, Bool.true_and, Bool.and_false, Bool.false_and, Bool.or_true, Bool.or_false, Bool.true_or, Bool.false_or, List.map_cons, List.map_nil, List.length_cons, List.length_nil, List.replicate, List.cons_append, List.nil_append, List.getElem?_cons_zero, List.getElem?_cons_succ, List.set_cons_zero, List.set_cons_succ, List.set_nil, Nat.reduceAdd, Nat.reduceSub, Nat.reduceLeDiff, Nat.reduceLT, guard_tt, ↓reduceIte, Bool.false_eq_true, Bool.not_true, Bool.not_false, Nat.zero_add, den_read_x1_s5, e_asgx, e_xadd, h5, gix_cnt hc, e_kxa0, e_xtuple, e_xlc, e1, rng1_i hr, Int.toNat_natCast, e_klcx, hl, guard_t (show cnt c ≤ cap by unfold cap; omega), hw, hn, e_kxl, e_kxt, e_kxa, hx, e_kxa2, e_kxs, stepO]
end G

set_option Elab.async false
set_option linter.all false
set_option maxRecDepth 100000
set_option maxHeartbeats 8000000
namespace G
open PySem L2
theorem wl_at {c : Nat} (h : isLet c = true) : (wl c == ("at" : Str)) = (c == 77) := by
  rcases let_cases h with rfl | rfl | rfl <;> decide +kernel
theorem ixN_last (n : Nat) : ixN (n + 1) (-1) = some n := by
  unfold ixN
  simp
  omega
theorem wD_app (G : List (List Sn)) (w : List Sn) : wD (G ++ [w]) = wD G ++ [w.map snD] := by unfold wD; rw [List.map_append]; rfl
theorem turn_t6 (T : List Nat) (a c : Nat) (F : List (List Sn)) (vs : List Int) (hc : isLet c = true) (hne : c ≠ 77 → F ≠ []) (hF : F.length ≤ 40) (hw : ∀ w ∈ F, w.length ≤ 1000) (x3 x4 x6 x8 : Option S) :
    den_read_x1_t6 (rho T a F x3 x4 (some (.d (.str (wl c)))) x6 (some (.d (snD (c, vs)))) x8) = den_read_x1_t8 (rho T a (addS F (c, vs)) x3 x4 (some (.d (.str (wl c)))) x6 (some (.d (snD (c, vs)))) x8) := by
  have hl := wD_len F
  generalize hs : snD (c, vs) = sd
  by_cases h : c = 77
  · have d1 : (c == 77) = true := by rw [h]; rfl
    have e1 : addS F (c, vs) = F ++ [[(c, vs)]] := by unfold addS; rw [if_pos h]
    have e2 : fS (addS F (c, vs)) = .ll ((wD F ++ [[]]).set F.length [sd]) := by
      rw [e1, fS_app, wD_app]
      congr 1
      rw [← hl, List.set_append_right _ _ (Nat.le_refl _), Nat.sub_self, ← hs]; rfl
    have i1 : ixN (wD F ++ [[]]).length (-1) = some F.length := by rw [List.length_append, hl]; exact ixN_last _
    have i2 : (wD F ++ [[]])[F.length]? = some ([] : List D) := by rw [← hl, List.getElem?_append_right (Nat.le_refl _), Nat.sub_self]; rfl
    unfold rho
    rw [e2]
    simp (maxSteps := 2000000) (disch := omega) only [e_lend, e_lend1, e_lend2, e_lend3, e_lend4, e_lend5, e_lend6, e_oixx, e_oixx1, e_oixx2, e_oixx3, e_oixx4, e_sets, e_sets0, e_sets1, e_sets2, e_sets3, e_sets4, e_sets5, e_sets6, e_appall, e_all_0, e_all_1, e_all_2, e_lclA, e_lcl, e_klcl, e_joind, e_joins, e_revrd, e_addb, e_lstb, e_klstb, e_fld, e_kfld, e_meth, e_kmeth, e_kmethb, e_make, e_mko, e_init, e_kini, e_kinib, e_kinic, e_alld0, e_alld1, e_alld2, e_starti, e_flds2, e_kf1, e_kf2, e_seq, e_seqn, e_seqr, e_if, e_dif, e_ift, e_iff, e_ret, e_kret, e_retv, e_kretv, e_retn, e_asg, e_kasg, e_asge, e_kasge, e_drop, e_kdrop, e_next, e_exc, e_muts, e_mutb, e_mut, e_kmut, e_app, e_ext, e_ins, e_setb, e_kset, e_set, e_set0, e_nx, e_unp, e_kunp, e_par, e_kpar, e_par3, e_kpar3, e_for, e_kfor, e_while, e_try, e_tryk, e_tryx, e_appb, e_kappl, e_appl, e_app0, e_llof1, e_llof2, e_m2d, e_m2c, e_m2, e_m2a, e_c, e_v, e_kv, e_own, e_kown, e_vs, e_kvs1, e_kvs2, e_kvs3, e_kix, e_oix, e_koix1, e_koix2, e_oit, e_koit1, e_koit2, e_2b, e_2, e_k2, e_1, e_k1, e_a, e_tos, e_ktos, e_anil, e_consb, e_acons, e_scons, e_kcons, e_snil, e_tup, e_ktup, e_lst, e_klst, e_slcb, e_slca, e_slc, e_kslc, e_slc1, e_slc2, e_slc3, e_ono, e_oso, e_koso, e_and, e_andt, e_andf, e_or, e_ort, e_orf, e_not, e_knot, e_andv, e_orv, e_kandv, e_korv, e_andwt, e_andwf, e_orwt, e_orwf, e_chdt, e_chdf, e_chc, e_chb, e_ch, e_kch, e_tob, e_notd, e_knotd, e_neg, e_add, e_addt, e_adds, e_sub, e_lt, e_le, e_gt, e_ge, e_ixl, e_ixt, e_ixs, e_ixr, e_trn, e_trb, e_tri, e_trl, e_trt, e_trs, e_trr, e_lenl, e_lent, e_lens, e_lenr, e_abs, e_max, e_min, e_cat, e_list1, e_list2, e_tuple1, e_tuple2, e_isn, e_isnn, e_ns1, e_ns2, e_nns1, e_nns2, e_no1, e_no2, e_no3, e_no4, e_int1, e_int2, e_run, e_endn, e_endr, e_endx, e_start, e_w0, e_w1, e_frz, e_kfr, e_kfrb, e_name, e_namest, e_namesl, e_all0, e_all1, e_ktupt, e_ktupl, e_ktc, e_ktcons, e_ktnil, e_yes, e_scs, e_sc1, e_sc2, e_sc3, e_sc4, e_itl, e_itt, e_lca, e_lc, e_klc, e_l0, e_l1, e_kl1, e_kl2t, e_kl2f, e_kl3, e_lp0, e_lp1, e_klp, e_klpn, e_klpr, ok_bind, bind_exc, bind_stuck, fz_d, fz_l, fz_ll, oOf_some, noX_k, eqD_ii, neD_ii, eqD_in, neD_in, eqD_ss, gle, glt, mulL, mulR, divP, modP, rng1P, rng2P, at0, at1, at2, at3, at4, atm1a, atm1b, atm1c, atm1s, cut_tail, decide_true, decide_false, Bool.and_true, Bool.true_and, Bool.and_false, Bool.false_and, Bool.or_true, Bool.or_false, Bool.true_or, Bool.false_or, List.map_cons, List.map_nil, List.length_cons, List.length_nil, List.replicate, List.cons_append, List.nil_append, List.getElem?_cons_zero, List.getElem?_cons_succ, List.set_cons_zero, List.set_cons_succ, List.set_nil, Nat.reduceAdd, Nat.reduceSub, Nat.reduceLeDiff, Nat.reduceLT, guard_tt, ↓reduceIte, Bool.false_eq_true, Bool.not_true, Bool.not_false, Nat.zero_add, den_read_x1_t6, den_read_x1_s6, den_read_x1_t7, den_read_x1_s7, wl_at hc, d1, fS_ll, hl, guard_t (show F.length < cap by unfold cap; omega), guard_t (show (0 : Nat) ≤ cap by decide), e_m2b i1 i2, guard_t (show (0 : Nat) < cap by decide)]
  · have d1 : (c == 77) = false := by simpa using h
    have hne := hne h
    obtain ⟨G, w, rfl⟩ : ∃ G w, F = G ++ [w] := ⟨F.dropLast, F.getLast hne, (List.dropLast_concat_getLast hne).symm⟩
    have hw' := hw w (by simp)
    have hg := wD_len G
    have e1 : addS (G ++ [w]) (c, vs) = G ++ [w ++ [(c, vs)]] := by unfold addS; rw [if_neg h, addL_app]
    have e2 : fS (addS (G ++ [w]) (c, vs)) = .ll ((wD G ++ [w.map snD]).set G.length (w.map snD ++ [sd])) := by
      rw [e1, fS_app, wD_app]
      congr 1
      rw [← hg, List.set_append_right _ _ (Nat.le_refl _), Nat.sub_self, ← hs, List.map_append]; rfl
    have e3 : fS (G ++ [w]) = .ll (wD G ++ [w.map snD]) := by rw [fS_app, wD_app]
    have i1 : ixN (wD G ++ [w.map snD]).length (-1) = some G.length := by rw [List.length_append, hg]; exact ixN_last _
    have i2 : (wD G ++ [w.map snD])[G.length]? = some (w.map snD) := by rw [← hg, List.getElem?_append_right (Nat.le_refl _), Nat.sub_self]; rfl
    unfold rho
    rw [e2, e3]
    generalize hW : w.map snD = W at *
    have hWl : W.length ≤ 1000 := by rw [← hW, List.length_map]; exact hw'
    simp (maxSteps := 2000000) (disch := omega) only [e_lend, e_lend1, e_lend2, e_lend3, e_lend4, e_lend5, e_lend6, e_oixx, e_oixx1, e_oixx2, e_oixx3, e_oixx4, e_sets, e_sets0, e_sets1, e_sets2, e_sets3, e_sets4, e_sets5, e_sets6, e_appall, e_all_0, e_all_1, e_all_2, e_lclA, e_lcl, e_klcl, e_joind, e_joins, e_revrd, e_addb, e_lstb, e_klstb, e_fld, e_kfld, e_meth, e_kmeth, e_kmethb, e_make, e_mko, e_init, e_kini, e_kinib, e_kinic, e_alld0, e_alld1, e_alld2, e_starti, e_flds2, e_kf1, e_kf2, e_seq, e_seqn, e_seqr, e_if, e_dif, e_ift, e_iff, e_ret, e_kret, e_retv, e_kretv, e_retn, e_asg, e_kasg, e_asge, e_kasge, e_drop, e_kdrop, e_next, e_exc, e_muts, e_mutb, e_mut, e_kmut, e_app, e_ext, e_ins, e_setb, e_kset, e_set, e_set0, e_nx, e_unp, e_kunp, e_par, e_kpar, e_par3, e_kpar3, e_for, e_kfor, e_while, e_try, e_tryk, e_tryx, e_appb, e_kappl, e_appl, e_app0, e_llof1, e_llof2, e_m2d, e_m2c, e_m2, e_m2a, e_c, e_v, e_kv, e_own, e_kown, e_vs, e_kvs1, e_kvs2, e_kvs3, e_kix, e_oix, e_koix1, e_koix2, e_oit, e_koit1, e_koit2, e_2b, e_2, e_k2, e_1, e_k1, e_a, e_tos, e_ktos, e_anil, e_consb, e_acons, e_scons, e_kcons, e_snil, e_tup, e_ktup, e_lst, e_klst, e_slcb, e_slca, e_slc, e_kslc, e_slc1, e_slc2, e_slc3, e_ono, e_oso, e_koso, e_and, e_andt, e_andf, e_or, e_ort, e_orf, e_not, e_knot, e_andv, e_orv, e_kandv, e_korv, e_andwt, e_andwf, e_orwt, e_orwf, e_chdt, e_chdf, e_chc, e_chb, e_ch, e_kch, e_tob, e_notd, e_knotd, e_neg, e_add, e_addt, e_adds, e_sub, e_lt, e_le, e_gt, e_ge, e_ixl, e_ixt, e_ixs, e_ixr, e_trn, e_trb, e_tri, e_trl, e_trt, e_trs, e_trr, e_lenl, e_lent, e_lens, e_lenr, e_abs, e_max, e_min, e_cat, e_list1, e_list2, e_tuple1, e_tuple2, e_isn, e_isnn, e_ns1, e_ns2, e_nns1, e_nns2, e_no1, e_no2, e_no3, e_no4, e_int1, e_int2, e_run, e_endn, e_endr, e_endx, e_start, e_w0, e_w1, e_frz, e_kfr, e_kfrb, e_name, e_namest, e_namesl, e_all0, e_all1, e_ktupt, e_ktupl, e_ktc, e_ktcons, e_ktnil, e_yes, e_scs, e_sc1, e_sc2, e_sc3, e_sc4, e_itl, e_itt, e_lca, e_lc, e_klc, e_l0, e_l1, e_kl1, e_kl2t, e_kl2f, e_kl3, e_lp0, e_lp1, e_klp, e_klpn, e_klpr, ok_bind, bind_exc, bind_stuck, fz_d, fz_l, fz_ll, oOf_some, noX_k, eqD_ii, neD_ii, eqD_in, neD_in, eqD_ss, gle, glt, mulL, mulR, divP, modP, rng1P, rng2P, at0, at1, at2, at3, at4, atm1a, atm1b, atm1c, atm1s, cut_tail, decide_true, decide_false, Bool.and_true, Bool.true_and, Bool.and_false, Bool.false_and, Bool.or_true, Bool.or_false, Bool.true_or, Bool.false_or, List.map_cons, List.map_nil, List.length_cons, List.length_nil, List.replicate, List.cons_append, List.nil_append, List.getElem?_cons_zero, List.getElem?_cons_succ, List.set_cons_zero, List.set_cons_succ, List.set_nil, Nat.reduceAdd, Nat.reduceSub, Nat.reduceLeDiff, Nat.reduceLT, guard_tt, ↓reduceIte, Bool.false_eq_true, Bool.not_true, Bool.not_false, Nat.zero_add, den_read_x1_t6, den_read_x1_s6, den_read_x1_t7, den_read_x1_s7, wl_at hc, d1, e_m2b i1 i2, guard_t (show W.length < cap by unfold cap; omega)]
theorem notin_end (l : List Nat) : notinD (.str (mkS l)) (.tup [.str (mkS []), .str (mkS [32]), .str (mkS [10])]) = .ok (.bl (!(decide (l = []) || (decide (l = [32]) || decide (l = [10]))))) := by
  have e1 : (mkS [] == mkS l) = decide (l = []) := by rw [mkS_beq]; exact decide_eq_decide.mpr ⟨Eq.symm, Eq.symm⟩
  have e2 : (mkS [32] == mkS l) = decide (l = [32]) := by rw [mkS_beq]; exact decide_eq_decide.mpr ⟨Eq.symm, Eq.symm⟩
  have e3 : (mkS [10] == mkS l) = decide (l = [10]) := by rw [mkS_beq]; exact decide_eq_decide.mpr ⟨Eq.symm, Eq.symm⟩
  show guard' (shal 40 (.str (mkS l)) = true) (Out.ok (D.bl (!([D.str (mkS []), D.str (mkS [32]), D.str (mkS [10])].any fun z => eqv z (.str (mkS l)))))) = _
  rw [guard_t (show shal 40 (.str (mkS l)) = true from rfl), List.any_cons, List.any_cons, List.any_cons, List.any_nil, eqv_ss, eqv_ss, eqv_ss, e1, e2, e3, Bool.or_false]
def endO (T : List Nat) (F : List (List Sn)) (b : Nat) : List Nat → Out Res
  | [] => .ok (.next (rho T (b + 1) F none none none none none none))
  | e :: R => if e = 32 ∨ e = 10 then if R = [] then refO (b + 1) else .ok (.next (rho T (b + 1) F none none none none none none)) else refO b
theorem endO_cons (T F b e R) : endO T F b (e :: R) = if e = 32 ∨ e = 10 then if R = [] then refO (b + 1) else .ok (.next (rho T (b + 1) F none none none none none none)) else refO b := (rfl)
theorem turn_t8 (T : List Nat) (b : Nat) (F : List (List Sn)) (hT : T.length ≤ 50000) (hb : b ≤ T.length) (x3 x4 x5 x7 x8 : Option S) :
    den_read_x1_t8 (rho T b F x3 x4 x5 none x7 x8) = endO T F b (T.drop b) := by
  have hT1 : T.length ≤ 1000000 := by omega
  have hs := ks_sees T b hT1
  have hlen := len_str T hT1
  generalize hf : fS F = fs
  cases q : T.drop b with
  | nil =>
    have hn : nx T b = [] := by unfold nx; rw [q]; rfl
    rw [hn] at hs
    show _ = Out.ok (Res.next (rho T (b + 1) F none none none none none none))
    simp (maxSteps := 2000000) (disch := omega) only [e_lend, e_lend1, e_lend2, e_lend3, e_lend4, e_lend5, e_lend6, e_oixx, e_oixx1, e_oixx2, e_oixx3, e_oixx4, e_sets, e_sets0, e_sets1, e_sets2, e_sets3, e_sets4, e_sets5, e_sets6, e_appall, e_all_0, e_all_1, e_all_2, e_lclA, e_lcl, e_klcl, e_joind, e_joins, e_revrd, e_addb, e_lstb, e_klstb, e_fld, e_kfld, e_meth, e_kmeth, e_kmethb, e_make, e_mko, e_init, e_kini, e_kinib, e_kinic, e_alld0, e_alld1, e_alld2, e_starti, e_flds2, e_kf1, e_kf2, e_seq, e_seqn, e_seqr, e_if, e_dif, e_ift, e_iff, e_ret, e_kret, e_retv, e_kretv, e_retn, e_asg, e_kasg, e_asge, e_kasge, e_drop, e_kdrop, e_next, e_exc, e_muts, e_mutb, e_mut, e_kmut, e_app, e_ext, e_ins, e_setb, e_kset, e_set, e_set0, e_nx, e_unp, e_kunp, e_par, e_kpar, e_par3, e_kpar3, e_for, e_kfor, e_while, e_try, e_tryk, e_tryx, e_appb, e_kappl, e_appl, e_app0, e_llof1, e_llof2, e_m2d, e_m2c, e_m2, e_m2a, e_c, e_v, e_kv, e_own, e_kown, e_vs, e_kvs1, e_kvs2, e_kvs3, e_kix, e_oix, e_koix1, e_koix2, e_oit, e_koit1, e_koit2, e_2b, e_2, e_k2, e_1, e_k1, e_a, e_tos, e_ktos, e_anil, e_consb, e_acons, e_scons, e_kcons, e_snil, e_tup, e_ktup, e_lst, e_klst, e_slcb, e_slca, e_slc, e_kslc, e_slc1, e_slc2, e_slc3, e_ono, e_oso, e_koso, e_and, e_andt, e_andf, e_or, e_ort, e_orf, e_not, e_knot, e_andv, e_orv, e_kandv, e_korv, e_andwt, e_andwf, e_orwt, e_orwf, e_chdt, e_chdf, e_chc, e_chb, e_ch, e_kch, e_tob, e_notd, e_knotd, e_neg, e_add, e_addt, e_adds, e_sub, e_lt, e_le, e_gt, e_ge, e_ixl, e_ixt, e_ixs, e_ixr, e_trn, e_trb, e_tri, e_trl, e_trt, e_trs, e_trr, e_lenl, e_lent, e_lens, e_lenr, e_abs, e_max, e_min, e_cat, e_list1, e_list2, e_tuple1, e_tuple2, e_isn, e_isnn, e_ns1, e_ns2, e_nns1, e_nns2, e_no1, e_no2, e_no3, e_no4, e_int1, e_int2, e_run, e_endn, e_endr, e_endx, e_start, e_w0, e_w1, e_frz, e_kfr, e_kfrb, e_name, e_namest, e_namesl, e_all0, e_all1, e_ktupt, e_ktupl, e_ktc, e_ktcons, e_ktnil, e_yes, e_scs, e_sc1, e_sc2, e_sc3, e_sc4, e_itl, e_itt, e_lca, e_lc, e_klc, e_l0, e_l1, e_kl1, e_kl2t, e_kl2f, e_kl3, e_lp0, e_lp1, e_klp, e_klpn, e_klpr, ok_bind, bind_exc, bind_stuck, fz_d, fz_l, fz_ll, oOf_some, noX_k, eqD_ii, neD_ii, eqD_in, neD_in, eqD_ss, gle, glt, mulL, mulR, divP, modP, rng1P, rng2P, at0, at1, at2, at3, at4, atm1a, atm1b, atm1c, atm1s, cut_tail, decide_true, decide_false, Bool.and_true, Bool.true_and, Bool.and_false, Bool.false_and, Bool.or_true, Bool.or_false, Bool.true_or, Bool.false_or, List.map_cons, List.map_nil, List.length_cons, List.length_nil, List.replicate, List.cons_append, List.nil_append, List.getElem?_cons_zero, List.getElem?_cons_succ, List.set_cons_zero, List.set_cons_succ, List.set_nil, Nat.reduceAdd, Nat.reduceSub, Nat.reduceLeDiff, Nat.reduceLT, guard_tt, ↓reduceIte, Bool.false_eq_true, Bool.not_true, Bool.not_false, Nat.zero_add, den_read_x1_t8, den_read_x1_s8, den_read_x1_t9, den_read_x1_s9, den_read_x1_t10, den_read_x1_s10, den_read_x1_t11, den_read_x1_s11, e_meths, hs, guard_t (show (3 : Nat) ≤ cap by decide), notin_end, e_fset, e_kfset0, e_fldm, fld_at, fset_sg, s_none, s_blank, s_row, ne_str', hf, rho]
  | cons e R =>
    have hn : nx T b = [e] := by unfold nx; rw [q]; rfl
    rw [hn] at hs
    have hl := congrArg List.length q
    rw [List.length_drop, List.length_cons] at hl
    have dn : decide (([e] : List Nat) = []) = false := rfl
    rw [endO_cons]
    have ec : ((b + 1 : Nat) : Int) = (b : Int) + 1 := by omega
    by_cases h : e = 32 ∨ e = 10
    · rw [if_pos h]
      have dd : (decide (([e] : List Nat) = [32]) || decide (([e] : List Nat) = [10])) = true := by rcases h with rfl | rfl <;> rfl
      by_cases hR : R = []
      · rw [if_pos hR]
        rw [hR, List.length_nil] at hl
        have e1 : (((b + 1 : Nat) : Int) == (T.length : Int)) = true := by rw [beq_iff_eq]; omega
        simp (maxSteps := 2000000) (disch := omega) only [e_lend, e_lend1, e_lend2, e_lend3, e_lend4, e_lend5, e_lend6, e_oixx, e_oixx1, e_oixx2, e_oixx3, e_oixx4, e_sets, e_sets0, e_sets1, e_sets2, e_sets3, e_sets4, e_sets5, e_sets6, e_appall, e_all_0, e_all_1, e_all_2, e_lclA, e_lcl, e_klcl, e_joind, e_joins, e_revrd, e_addb, e_lstb, e_klstb, e_fld, e_kfld, e_meth, e_kmeth, e_kmethb, e_make, e_mko, e_init, e_kini, e_kinib, e_kinic, e_alld0, e_alld1, e_alld2, e_starti, e_flds2, e_kf1, e_kf2, e_seq, e_seqn, e_seqr, e_if, e_dif, e_ift, e_iff, e_ret, e_kret, e_retv, e_kretv, e_retn, e_asg, e_kasg, e_asge, e_kasge, e_drop, e_kdrop, e_next, e_exc, e_muts, e_mutb, e_mut, e_kmut, e_app, e_ext, e_ins, e_setb, e_kset, e_set, e_set0, e_nx, e_unp, e_kunp, e_par, e_kpar, e_par3, e_kpar3, e_for, e_kfor, e_while, e_try, e_tryk, e_tryx, e_appb, e_kappl, e_appl, e_app0, e_llof1, e_llof2, e_m2d, e_m2c, e_m2, e_m2a, e_c, e_v, e_kv, e_own, e_kown, e_vs, e_kvs1, e_kvs2, e_kvs3, e_kix, e_oix, e_koix1, e_koix2, e_oit, e_koit1, e_koit2, e_2b, e_2, e_k2, e_1, e_k1, e_a, e_tos, e_ktos, e_anil, e_consb, e_acons, e_scons, e_kcons, e_snil, e_tup, e_ktup, e_lst, e_klst, e_slcb, e_slca, e_slc, e_kslc, e_slc1, e_slc2, e_slc3, e_ono, e_oso, e_koso, e_and, e_andt, e_andf, e_or, e_ort, e_orf, e_not, e_knot, e_andv, e_orv, e_kandv, e_korv, e_andwt, e_andwf, e_orwt, e_orwf, e_chdt, e_chdf, e_chc, e_chb, e_ch, e_kch, e_tob, e_notd, e_knotd, e_neg, e_add, e_addt, e_adds, e_sub, e_lt, e_le, e_gt, e_ge, e_ixl, e_ixt, e_ixs, e_ixr, e_trn, e_trb, e_tri, e_trl, e_trt, e_trs, e_trr, e_lenl, e_lent, e_lens, e_lenr, e_abs, e_max, e_min, e_cat, e_list1, e_list2, e_tuple1, e_tuple2, e_isn, e_isnn, e_ns1, e_ns2, e_nns1, e_nns2, e_no1, e_no2, e_no3, e_no4, e_int1, e_int2, e_run, e_endn, e_endr, e_endx, e_start, e_w0, e_w1, e_frz, e_kfr, e_kfrb, e_name, e_namest, e_namesl, e_all0, e_all1, e_ktupt, e_ktupl, e_ktc, e_ktcons, e_ktnil, e_yes, e_scs, e_sc1, e_sc2, e_sc3, e_sc4, e_itl, e_itt, e_lca, e_lc, e_klc, e_l0, e_l1, e_kl1, e_kl2t, e_kl2f, e_kl3, e_lp0, e_lp1, e_klp, e_klpn, e_klpr, ok_bind, bind_exc, bind_stuck, fz_d, fz_l, fz_ll, oOf_some, noX_k, eqD_ii, neD_ii, eqD_in, neD_in, eqD_ss, gle, glt, mulL, mulR, divP, modP, rng1P, rng2P, at0, at1, at2, at3, at4, atm1a, atm1b, atm1c, atm1s, cut_tail, decide_true, decide_false, Bool.and_true, Bool.true_and, Bool.and_false, Bool.false_and, Bool.or_true, Bool.or_false, Bool.true_or, Bool.false_or, List.map_cons, List.map_nil, List.length_cons, List.length_nil, List.replicate, List.cons_append, List.nil_append, List.getElem?_cons_zero, List.getElem?_cons_succ, List.set_cons_zero, List.set_cons_succ, List.set_nil, Nat.reduceAdd, Nat.reduceSub, Nat.reduceLeDiff, Nat.reduceLT, guard_tt, ↓reduceIte, Bool.false_eq_true, Bool.not_true, Bool.not_false, Nat.zero_add, den_read_x1_t8, den_read_x1_s8, den_read_x1_t9, den_read_x1_s9, den_read_x1_t10, den_read_x1_s10, den_read_x1_t11, den_read_x1_s11, e_meths, hs, guard_t (show (3 : Nat) ≤ cap by decide), notin_end, dn, dd, e_fset, e_kfset0, e_fldm, fld_at, fset_sg, s_none, s_blank, s_row, ne_str', hf, rho, hlen, e1, e_stuck, refO]
      · rw [if_neg hR]
        have h0 : 0 < R.length := List.length_pos_iff.mpr hR
        have e1 : (((b + 1 : Nat) : Int) == (T.length : Int)) = false := by rw [beq_eq_false_iff_ne]; omega
        simp (maxSteps := 2000000) (disch := omega) only [e_lend, e_lend1, e_lend2, e_lend3, e_lend4, e_lend5, e_lend6, e_oixx, e_oixx1, e_oixx2, e_oixx3, e_oixx4, e_sets, e_sets0, e_sets1, e_sets2, e_sets3, e_sets4, e_sets5, e_sets6, e_appall, e_all_0, e_all_1, e_all_2, e_lclA, e_lcl, e_klcl, e_joind, e_joins, e_revrd, e_addb, e_lstb, e_klstb, e_fld, e_kfld, e_meth, e_kmeth, e_kmethb, e_make, e_mko, e_init, e_kini, e_kinib, e_kinic, e_alld0, e_alld1, e_alld2, e_starti, e_flds2, e_kf1, e_kf2, e_seq, e_seqn, e_seqr, e_if, e_dif, e_ift, e_iff, e_ret, e_kret, e_retv, e_kretv, e_retn, e_asg, e_kasg, e_asge, e_kasge, e_drop, e_kdrop, e_next, e_exc, e_muts, e_mutb, e_mut, e_kmut, e_app, e_ext, e_ins, e_setb, e_kset, e_set, e_set0, e_nx, e_unp, e_kunp, e_par, e_kpar, e_par3, e_kpar3, e_for, e_kfor, e_while, e_try, e_tryk, e_tryx, e_appb, e_kappl, e_appl, e_app0, e_llof1, e_llof2, e_m2d, e_m2c, e_m2, e_m2a, e_c, e_v, e_kv, e_own, e_kown, e_vs, e_kvs1, e_kvs2, e_kvs3, e_kix, e_oix, e_koix1, e_koix2, e_oit, e_koit1, e_koit2, e_2b, e_2, e_k2, e_1, e_k1, e_a, e_tos, e_ktos, e_anil, e_consb, e_acons, e_scons, e_kcons, e_snil, e_tup, e_ktup, e_lst, e_klst, e_slcb, e_slca, e_slc, e_kslc, e_slc1, e_slc2, e_slc3, e_ono, e_oso, e_koso, e_and, e_andt, e_andf, e_or, e_ort, e_orf, e_not, e_knot, e_andv, e_orv, e_kandv, e_korv, e_andwt, e_andwf, e_orwt, e_orwf, e_chdt, e_chdf, e_chc, e_chb, e_ch, e_kch, e_tob, e_notd, e_knotd, e_neg, e_add, e_addt, e_adds, e_sub, e_lt, e_le, e_gt, e_ge, e_ixl, e_ixt, e_ixs, e_ixr, e_trn, e_trb, e_tri, e_trl, e_trt, e_trs, e_trr, e_lenl, e_lent, e_lens, e_lenr, e_abs, e_max, e_min, e_cat, e_list1, e_list2, e_tuple1, e_tuple2, e_isn, e_isnn, e_ns1, e_ns2, e_nns1, e_nns2, e_no1, e_no2, e_no3, e_no4, e_int1, e_int2, e_run, e_endn, e_endr, e_endx, e_start, e_w0, e_w1, e_frz, e_kfr, e_kfrb, e_name, e_namest, e_namesl, e_all0, e_all1, e_ktupt, e_ktupl, e_ktc, e_ktcons, e_ktnil, e_yes, e_scs, e_sc1, e_sc2, e_sc3, e_sc4, e_itl, e_itt, e_lca, e_lc, e_klc, e_l0, e_l1, e_kl1, e_kl2t, e_kl2f, e_kl3, e_lp0, e_lp1, e_klp, e_klpn, e_klpr, ok_bind, bind_exc, bind_stuck, fz_d, fz_l, fz_ll, oOf_some, noX_k, eqD_ii, neD_ii, eqD_in, neD_in, eqD_ss, gle, glt, mulL, mulR, divP, modP, rng1P, rng2P, at0, at1, at2, at3, at4, atm1a, atm1b, atm1c, atm1s, cut_tail, decide_true, decide_false, Bool.and_true, Bool.true_and, Bool.and_false, Bool.false_and, Bool.or_true, Bool.or_false, Bool.true_or, Bool.false_or, List.map_cons, List.map_nil, List.length_cons, List.length_nil, List.replicate, List.cons_append, List.nil_append, List.getElem?_cons_zero, List.getElem?_cons_succ, List.set_cons_zero, List.set_cons_succ, List.set_nil, Nat.reduceAdd, Nat.reduceSub, Nat.reduceLeDiff, Nat.reduceLT, guard_tt, ↓reduceIte, Bool.false_eq_true, Bool.not_true, Bool.not_false, Nat.zero_add, den_read_x1_t8, den_read_x1_s8, den_read_x1_t9, den_read_x1_s9, den_read_x1_t10, den_read_x1_s10, den_read_x1_t11, den_read_x1_s11, e_meths, hs, guard_t (show (3 : Nat) ≤ cap by decide), notin_end, dn, dd, e_fset, e_kfset0, e_fldm, fld_at, fset_sg, s_none, s_blank, s_row, ne_str', hf, rho, hlen, e1, e_stuck, refO]
    · rw [if_neg h]
      have dd : (decide (([e] : List Nat) = [32]) || decide (([e] : List Nat) = [10])) = false := by
        rw [sD1, sD1]
        have h1 : (e == 32) = false := by rw [beq_eq_false_iff_ne]; exact fun z => h (Or.inl z)
        have h2 : (e == 10) = false := by rw [beq_eq_false_iff_ne]; exact fun z => h (Or.inr z)
        rw [h1, h2]; rfl
      simp (maxSteps := 2000000) (disch := omega) only [e_lend, e_lend1, e_lend2, e_lend3, e_lend4, e_lend5, e_lend6, e_oixx, e_oixx1, e_oixx2, e_oixx3, e_oixx4, e_sets, e_sets0, e_sets1, e_sets2, e_sets3, e_sets4, e_sets5, e_sets6, e_appall, e_all_0, e_all_1, e_all_2, e_lclA, e_lcl, e_klcl, e_joind, e_joins, e_revrd, e_addb, e_lstb, e_klstb, e_fld, e_kfld, e_meth, e_kmeth, e_kmethb, e_make, e_mko, e_init, e_kini, e_kinib, e_kinic, e_alld0, e_alld1, e_alld2, e_starti, e_flds2, e_kf1, e_kf2, e_seq, e_seqn, e_seqr, e_if, e_dif, e_ift, e_iff, e_ret, e_kret, e_retv, e_kretv, e_retn, e_asg, e_kasg, e_asge, e_kasge, e_drop, e_kdrop, e_next, e_exc, e_muts, e_mutb, e_mut, e_kmut, e_app, e_ext, e_ins, e_setb, e_kset, e_set, e_set0, e_nx, e_unp, e_kunp, e_par, e_kpar, e_par3, e_kpar3, e_for, e_kfor, e_while, e_try, e_tryk, e_tryx, e_appb, e_kappl, e_appl, e_app0, e_llof1, e_llof2, e_m2d, e_m2c, e_m2, e_m2a, e_c, e_v, e_kv, e_own, e_kown, e_vs, e_kvs1, e_kvs2, e_kvs3, e_kix, e_oix, e_koix1, e_koix2, e_oit, e_koit1, e_koit2, e_2b, e_2, e_k2, e_1, e_k1, e_a, e_tos, e_ktos, e_anil, e_consb, e_acons, e_scons, e_kcons, e_snil, e_tup, e_ktup, e_lst, e_klst, e_slcb, e_slca, e_slc, e_kslc, e_slc1, e_slc2, e_slc3, e_ono, e_oso, e_koso, e_and, e_andt, e_andf, e_or, e_ort, e_orf, e_not, e_knot, e_andv, e_orv, e_kandv, e_korv, e_andwt, e_andwf, e_orwt, e_orwf, e_chdt, e_chdf, e_chc, e_chb, e_ch, e_kch, e_tob, e_notd, e_knotd, e_neg, e_add, e_addt, e_adds, e_sub, e_lt, e_le, e_gt, e_ge, e_ixl, e_ixt, e_ixs, e_ixr, e_trn, e_trb, e_tri, e_trl, e_trt, e_trs, e_trr, e_lenl, e_lent, e_lens, e_lenr, e_abs, e_max, e_min, e_cat, e_list1, e_list2, e_tuple1, e_tuple2, e_isn, e_isnn, e_ns1, e_ns2, e_nns1, e_nns2, e_no1, e_no2, e_no3, e_no4, e_int1, e_int2, e_run, e_endn, e_endr, e_endx, e_start, e_w0, e_w1, e_frz, e_kfr, e_kfrb, e_name, e_namest, e_namesl, e_all0, e_all1, e_ktupt, e_ktupl, e_ktc, e_ktcons, e_ktnil, e_yes, e_scs, e_sc1, e_sc2, e_sc3, e_sc4, e_itl, e_itt, e_lca, e_lc, e_klc, e_l0, e_l1, e_kl1, e_kl2t, e_kl2f, e_kl3, e_lp0, e_lp1, e_klp, e_klpn, e_klpr, ok_bind, bind_exc, bind_stuck, fz_d, fz_l, fz_ll, oOf_some, noX_k, eqD_ii, neD_ii, eqD_in, neD_in, eqD_ss, gle, glt, mulL, mulR, divP, modP, rng1P, rng2P, at0, at1, at2, at3, at4, atm1a, atm1b, atm1c, atm1s, cut_tail, decide_true, decide_false, Bool.and_true, Bool.true_and, Bool.and_false, Bool.false_and, Bool.or_true, Bool.or_false, Bool.true_or, Bool.false_or, List.map_cons, List.map_nil, List.length_cons, List.length_nil, List.replicate, List.cons_append, List.nil_append, List.getElem?_cons_zero, List.getElem?_cons_succ, List.set_cons_zero, List.set_cons_succ, List.set_nil, Nat.reduceAdd, Nat.reduceSub, Nat.reduceLeDiff, Nat.reduceLT, guard_tt, ↓reduceIte, Bool.false_eq_true, Bool.not_true, Bool.not_false, Nat.zero_add, den_read_x1_t8, den_read_x1_s8, den_read_x1_t9, den_read_x1_s9, e_meths, hs, guard_t (show (3 : Nat) ≤ cap by decide), s_none, s_blank, s_row, notin_end, dn, dd, e_stuck, refO]
end G

set_option Elab.async false
set_option linter.all false
set_option maxRecDepth 100000
set_option maxHeartbeats 8000000
namespace G
open PySem L2
abbrev rtest : Env → Out Bool := d1 toB (d2 ltD (dFldM 1 "Signs" "at") (dA lenD (aCons (dV 0) aNil)))
abbrev rho0 (T : List Nat) (a : Nat) (F : List (List Sn)) : Env := rho T a F none none none none none none
theorem test_t (T : List Nat) (a : Nat) (F : List (List Sn)) (hT : T.length ≤ 50000) : rtest (rho0 T a F) = .ok (decide (a < T.length)) := by
  have hlen := len_str T (by omega)
  have d1 : decide ((a : Int) < (T.length : Int)) = decide (a < T.length) := decide_eq_decide.mpr (by omega)
  generalize hf : fS F = fs
  simp (maxSteps := 2000000) (disch := omega) only [e_lend, e_lend1, e_lend2, e_lend3, e_lend4, e_lend5, e_lend6, e_oixx, e_oixx1, e_oixx2, e_oixx3, e_oixx4, e_sets, e_sets0, e_sets1, e_sets2, e_sets3, e_sets4, e_sets5, e_sets6, e_appall, e_all_0, e_all_1, e_all_2, e_lclA, e_lcl, e_klcl, e_joind, e_joins, e_revrd, e_addb, e_lstb, e_klstb, e_fld, e_kfld, e_meth, e_kmeth, e_kmethb, e_make, e_mko, e_init, e_kini, e_kinib, e_kinic, e_alld0, e_alld1, e_alld2, e_starti, e_flds2, e_kf1, e_kf2, e_seq, e_seqn, e_seqr, e_if, e_dif, e_ift, e_iff, e_ret, e_kret, e_retv, e_kretv, e_retn, e_asg, e_kasg, e_asge, e_kasge, e_drop, e_kdrop, e_next, e_exc, e_muts, e_mutb, e_mut, e_kmut, e_app, e_ext, e_ins, e_setb, e_kset, e_set, e_set0, e_nx, e_unp, e_kunp, e_par, e_kpar, e_par3, e_kpar3, e_for, e_kfor, e_while, e_try, e_tryk, e_tryx, e_appb, e_kappl, e_appl, e_app0, e_llof1, e_llof2, e_m2d, e_m2c, e_m2, e_m2a, e_c, e_v, e_kv, e_own, e_kown, e_vs, e_kvs1, e_kvs2, e_kvs3, e_kix, e_oix, e_koix1, e_koix2, e_oit, e_koit1, e_koit2, e_2b, e_2, e_k2, e_1, e_k1, e_a, e_tos, e_ktos, e_anil, e_consb, e_acons, e_scons, e_kcons, e_snil, e_tup, e_ktup, e_lst, e_klst, e_slcb, e_slca, e_slc, e_kslc, e_slc1, e_slc2, e_slc3, e_ono, e_oso, e_koso, e_and, e_andt, e_andf, e_or, e_ort, e_orf, e_not, e_knot, e_andv, e_orv, e_kandv, e_korv, e_andwt, e_andwf, e_orwt, e_orwf, e_chdt, e_chdf, e_chc, e_chb, e_ch, e_kch, e_tob, e_notd, e_knotd, e_neg, e_add, e_addt, e_adds, e_sub, e_lt, e_le, e_gt, e_ge, e_ixl, e_ixt, e_ixs, e_ixr, e_trn, e_trb, e_tri, e_trl, e_trt, e_trs, e_trr, e_lenl, e_lent, e_lens, e_lenr, e_abs, e_max, e_min, e_cat, e_list1, e_list2, e_tuple1, e_tuple2, e_isn, e_isnn, e_ns1, e_ns2, e_nns1, e_nns2, e_no1, e_no2, e_no3, e_no4, e_int1, e_int2, e_run, e_endn, e_endr, e_endx, e_start, e_w0, e_w1, e_frz, e_kfr, e_kfrb, e_name, e_namest, e_namesl, e_all0, e_all1, e_ktupt, e_ktupl, e_ktc, e_ktcons, e_ktnil, e_yes, e_scs, e_sc1, e_sc2, e_sc3, e_sc4, e_itl, e_itt, e_lca, e_lc, e_klc, e_l0, e_l1, e_kl1, e_kl2t, e_kl2f, e_kl3, e_lp0, e_lp1, e_klp, e_klpn, e_klpr, ok_bind, bind_exc, bind_stuck, fz_d, fz_l, fz_ll, oOf_some, noX_k, eqD_ii, neD_ii, eqD_in, neD_in, eqD_ss, gle, glt, mulL, mulR, divP, modP, rng1P, rng2P, at0, at1, at2, at3, at4, atm1a, atm1b, atm1c, atm1s, cut_tail, decide_true, decide_false, Bool.and_true, Bool.true_and, Bool.and_false, Bool.false_and, Bool.or_true, Bool.or_false, Bool.true_or, Bool.false_or, List.map_cons, List.map_nil, List.length_cons, List.length_nil, List.replicate, List.cons_append, List.nil_append, List.getElem?_cons_zero, List.getElem?_cons_succ, List.set_cons_zero, List.set_cons_succ, List.set_nil, Nat.reduceAdd, Nat.reduceSub, Nat.reduceLeDiff, Nat.reduceLT, guard_tt, ↓reduceIte, Bool.false_eq_true, Bool.not_true, Bool.not_false, Nat.zero_add, rho, hf, e_fldm, fld_at, hlen, d1]
/-- one turn -/
def turnO (T : List Nat) (F : List (List Sn)) (c a : Nat) : RdL → Out Res
  | .bad p => refO (a + p)
  | .ok k vs => endO T (addS F (c, vs)) (a + k) (T.drop (a + k))
theorem rdNum_le (R : List Nat) : ∀ k v, rdNum R = .ok k v → k ≤ R.length := by
  intro k v h
  unfold rdNum at h
  have key : ∀ s m w, rdW s m w = .ok k v → k = s + w.length := fun s m w h => by
    unfold rdW at h
    split at h
    · cases h
    · split at h
      · cases h
      · split at h
        · cases h
        · cases h; rfl
  have tl : ∀ l : List Nat, (l.takeWhile isFig).length ≤ l.length := fun l => (List.takeWhile_prefix (p := isFig) (l := l)).length_le
  by_cases h0 : R.take 1 = [32]
  · rw [if_pos h0] at h
    have hR : 1 ≤ R.length := by
      cases R with
      | nil => cases h0
      | cons => simp
    by_cases h1 : (R.drop 1).take 1 = [45]
    · rw [if_pos h1] at h
      have hR2 : 2 ≤ R.length := by
        cases R with
        | nil => cases h0
        | cons x r =>
          cases r with
          | nil => cases h1
          | cons => simp
      have := key _ _ _ h
      have := tl (R.drop 2)
      rw [List.length_drop] at this
      omega
    · rw [if_neg h1] at h
      have := key _ _ _ h
      have := tl (R.drop 1)
      rw [List.length_drop] at this
      omega
  · rw [if_neg h0] at h; cases h
theorem rdNums_le : ∀ (n : Nat) (R : List Nat) (k : Nat) (vs : List Int), rdNums n R = .ok k vs → k ≤ R.length
  | 0, R, k, vs, h => by cases h; exact Nat.zero_le _
  | n + 1, R, k, vs, h => by
    have h : rdNext (rdNums n) R (rdNum R) = .ok k vs := h
    cases q : rdNum R with
    | bad p => rw [q] at h; cases h
    | ok k1 v =>
      rw [q] at h
      have h : rdPut k1 v (rdNums n (R.drop k1)) = .ok k vs := h
      cases z : rdNums n (R.drop k1) with
      | bad p => rw [z] at h; cases h
      | ok k2 ws =>
        rw [z] at h
        have h : RdL.ok (k1 + k2) (v :: ws) = .ok k vs := h
        cases h
        have h1 := rdNum_le R k1 v q
        have h2 := rdNums_le n _ k2 ws z
        rw [List.length_drop] at h2
        omega
theorem turn_spec (T : List Nat) (a c : Nat) (R : List Nat) (F : List (List Sn)) (hT : T.length ≤ 50000) (hd : T.drop a = c :: R) (hF : F.length ≤ 40) (hw : ∀ w ∈ F, w.length ≤ 200) :
    den_read_b1 (rho0 T a F) = if badLet (begs T a F) F c = true then refO a else turnO T F c (a + 1) (rdNums (cnt c) R) := by
  have hT1 : T.length ≤ 1000000 := by omega
  have hlen := congrArg List.length hd
  rw [List.length_drop, List.length_cons] at hlen
  have hn : nx T a = [c] := by unfold nx; rw [hd]; rfl
  have hR : T.drop (a + 1) = R := by rw [← List.drop_drop, hd]; rfl
  have hs := ks_sees T a hT1
  rw [hn] at hs
  have x1 : den_read_b1 (rho0 T a F) = den_read_x1_t1 (rho T a F (some (.d (.str (mkS [c])))) none none none none none) := by
    generalize hf : fS F = fs
    simp (maxSteps := 2000000) (disch := omega) only [e_lend, e_lend1, e_lend2, e_lend3, e_lend4, e_lend5, e_lend6, e_oixx, e_oixx1, e_oixx2, e_oixx3, e_oixx4, e_sets, e_sets0, e_sets1, e_sets2, e_sets3, e_sets4, e_sets5, e_sets6, e_appall, e_all_0, e_all_1, e_all_2, e_lclA, e_lcl, e_klcl, e_joind, e_joins, e_revrd, e_addb, e_lstb, e_klstb, e_fld, e_kfld, e_meth, e_kmeth, e_kmethb, e_make, e_mko, e_init, e_kini, e_kinib, e_kinic, e_alld0, e_alld1, e_alld2, e_starti, e_flds2, e_kf1, e_kf2, e_seq, e_seqn, e_seqr, e_if, e_dif, e_ift, e_iff, e_ret, e_kret, e_retv, e_kretv, e_retn, e_asg, e_kasg, e_asge, e_kasge, e_drop, e_kdrop, e_next, e_exc, e_muts, e_mutb, e_mut, e_kmut, e_app, e_ext, e_ins, e_setb, e_kset, e_set, e_set0, e_nx, e_unp, e_kunp, e_par, e_kpar, e_par3, e_kpar3, e_for, e_kfor, e_while, e_try, e_tryk, e_tryx, e_appb, e_kappl, e_appl, e_app0, e_llof1, e_llof2, e_m2d, e_m2c, e_m2, e_m2a, e_c, e_v, e_kv, e_own, e_kown, e_vs, e_kvs1, e_kvs2, e_kvs3, e_kix, e_oix, e_koix1, e_koix2, e_oit, e_koit1, e_koit2, e_2b, e_2, e_k2, e_1, e_k1, e_a, e_tos, e_ktos, e_anil, e_consb, e_acons, e_scons, e_kcons, e_snil, e_tup, e_ktup, e_lst, e_klst, e_slcb, e_slca, e_slc, e_kslc, e_slc1, e_slc2, e_slc3, e_ono, e_oso, e_koso, e_and, e_andt, e_andf, e_or, e_ort, e_orf, e_not, e_knot, e_andv, e_orv, e_kandv, e_korv, e_andwt, e_andwf, e_orwt, e_orwf, e_chdt, e_chdf, e_chc, e_chb, e_ch, e_kch, e_tob, e_notd, e_knotd, e_neg, e_add, e_addt, e_adds, e_sub, e_lt, e_le, e_gt, e_ge, e_ixl, e_ixt, e_ixs, e_ixr, e_trn, e_trb, e_tri, e_trl, e_trt, e_trs, e_trr, e_lenl, e_lent, e_lens, e_lenr, e_abs, e_max, e_min, e_cat, e_list1, e_list2, e_tuple1, e_tuple2, e_isn, e_isnn, e_ns1, e_ns2, e_nns1, e_nns2, e_no1, e_no2, e_no3, e_no4, e_int1, e_int2, e_run, e_endn, e_endr, e_endx, e_start, e_w0, e_w1, e_frz, e_kfr, e_kfrb, e_name, e_namest, e_namesl, e_all0, e_all1, e_ktupt, e_ktupl, e_ktc, e_ktcons, e_ktnil, e_yes, e_scs, e_sc1, e_sc2, e_sc3, e_sc4, e_itl, e_itt, e_lca, e_lc, e_klc, e_l0, e_l1, e_kl1, e_kl2t, e_kl2f, e_kl3, e_lp0, e_lp1, e_klp, e_klpn, e_klpr, ok_bind, bind_exc, bind_stuck, fz_d, fz_l, fz_ll, oOf_some, noX_k, eqD_ii, neD_ii, eqD_in, neD_in, eqD_ss, gle, glt, mulL, mulR, divP, modP, rng1P, rng2P, at0, at1, at2, at3, at4, atm1a, atm1b, atm1c, atm1s, cut_tail, decide_true, decide_false, Bool.and_true, Bool.true_and, Bool.and_false, Bool.false_and, Bool.or_true, Bool.or_false, Bool.true_or, Bool.false_or, List.map_cons, List.map_nil, List.length_cons, List.length_nil, List.replicate, List.cons_append, List.nil_append, List.getElem?_cons_zero, List.getElem?_cons_succ, List.set_cons_zero, List.set_cons_succ, List.set_nil, Nat.reduceAdd, Nat.reduceSub, Nat.reduceLeDiff, Nat.reduceLT, guard_tt, ↓reduceIte, Bool.false_eq_true, Bool.not_true, Bool.not_false, Nat.zero_add, den_read_b1, rho, hf, e_meths, hs]
  have s1 := turn_s1 T a c F hT (by omega) none none none none none
  have hb : begs T a F = false → F ≠ [] := fun h z => by rw [z] at h; cases h
  have s2 := turn_s2 T a c F (begs T a F) hF hb (fun w h => by have := hw w h; omega) none none none none
  have x2 : den_read_x1_t1 (rho T a F (some (.d (.str (mkS [c])))) none none none none none) = (den_read_x1_s2 (rho T a F (some (.d (.str (mkS [c])))) (some (.d (.bl (isLet c && ((c == 77) == begs T a F))))) none none none none)).bind (kSeq den_read_x1_t3) := by
    unfold den_read_x1_t1
    rw [e_seq, s1, ok_bind, e_seqn]
    unfold den_read_x1_t2
    rw [e_seq]
  rw [x1, x2, s2]
  cases hbad : badLet (begs T a F) F c with
  | true => rw [if_pos rfl, if_pos rfl]; rfl
  | false =>
    rw [if_neg Bool.false_ne_true, if_neg Bool.false_ne_true, ok_bind, e_seqn]
    have hg : (isLet c && ((c == 77) == begs T a F)) = true := by
      cases z : (isLet c && ((c == 77) == begs T a F)) with
      | true => rfl
      | false => unfold badLet at hbad; rw [z] at hbad; cases hbad
    have hc : isLet c = true := (Bool.and_eq_true_iff.mp hg).1
    have hcb : (c == 77) = begs T a F := by simpa using (Bool.and_eq_true_iff.mp hg).2
    rw [hg]
    have x3 : den_read_x1_t3 (rho T a F (some (.d (.str (mkS [c])))) (some (.d (.bl true))) none none none none) = (den_read_x1_s5 (rho T (a + 1) F (some (.d (.str (mkS [c])))) (some (.d (.bl true))) (some (.d (.str (wl c)))) none none none)).bind (kSeq den_read_x1_t6) := by
      generalize hf : fS F = fs
      simp (maxSteps := 2000000) (disch := omega) only [e_lend, e_lend1, e_lend2, e_lend3, e_lend4, e_lend5, e_lend6, e_oixx, e_oixx1, e_oixx2, e_oixx3, e_oixx4, e_sets, e_sets0, e_sets1, e_sets2, e_sets3, e_sets4, e_sets5, e_sets6, e_appall, e_all_0, e_all_1, e_all_2, e_lclA, e_lcl, e_klcl, e_joind, e_joins, e_revrd, e_addb, e_lstb, e_klstb, e_fld, e_kfld, e_meth, e_kmeth, e_kmethb, e_make, e_mko, e_init, e_kini, e_kinib, e_kinic, e_alld0, e_alld1, e_alld2, e_starti, e_flds2, e_kf1, e_kf2, e_seq, e_seqn, e_seqr, e_if, e_dif, e_ift, e_iff, e_ret, e_kret, e_retv, e_kretv, e_retn, e_asg, e_kasg, e_asge, e_kasge, e_drop, e_kdrop, e_next, e_exc, e_muts, e_mutb, e_mut, e_kmut, e_app, e_ext, e_ins, e_setb, e_kset, e_set, e_set0, e_nx, e_unp, e_kunp, e_par, e_kpar, e_par3, e_kpar3, e_for, e_kfor, e_while, e_try, e_tryk, e_tryx, e_appb, e_kappl, e_appl, e_app0, e_llof1, e_llof2, e_m2d, e_m2c, e_m2, e_m2a, e_c, e_v, e_kv, e_own, e_kown, e_vs, e_kvs1, e_kvs2, e_kvs3, e_kix, e_oix, e_koix1, e_koix2, e_oit, e_koit1, e_koit2, e_2b, e_2, e_k2, e_1, e_k1, e_a, e_tos, e_ktos, e_anil, e_consb, e_acons, e_scons, e_kcons, e_snil, e_tup, e_ktup, e_lst, e_klst, e_slcb, e_slca, e_slc, e_kslc, e_slc1, e_slc2, e_slc3, e_ono, e_oso, e_koso, e_and, e_andt, e_andf, e_or, e_ort, e_orf, e_not, e_knot, e_andv, e_orv, e_kandv, e_korv, e_andwt, e_andwf, e_orwt, e_orwf, e_chdt, e_chdf, e_chc, e_chb, e_ch, e_kch, e_tob, e_notd, e_knotd, e_neg, e_add, e_addt, e_adds, e_sub, e_lt, e_le, e_gt, e_ge, e_ixl, e_ixt, e_ixs, e_ixr, e_trn, e_trb, e_tri, e_trl, e_trt, e_trs, e_trr, e_lenl, e_lent, e_lens, e_lenr, e_abs, e_max, e_min, e_cat, e_list1, e_list2, e_tuple1, e_tuple2, e_isn, e_isnn, e_ns1, e_ns2, e_nns1, e_nns2, e_no1, e_no2, e_no3, e_no4, e_int1, e_int2, e_run, e_endn, e_endr, e_endx, e_start, e_w0, e_w1, e_frz, e_kfr, e_kfrb, e_name, e_namest, e_namesl, e_all0, e_all1, e_ktupt, e_ktupl, e_ktc, e_ktcons, e_ktnil, e_yes, e_scs, e_sc1, e_sc2, e_sc3, e_sc4, e_itl, e_itt, e_lca, e_lc, e_klc, e_l0, e_l1, e_kl1, e_kl2t, e_kl2f, e_kl3, e_lp0, e_lp1, e_klp, e_klpn, e_klpr, ok_bind, bind_exc, bind_stuck, fz_d, fz_l, fz_ll, oOf_some, noX_k, eqD_ii, neD_ii, eqD_in, neD_in, eqD_ss, gle, glt, mulL, mulR, divP, modP, rng1P, rng2P, at0, at1, at2, at3, at4, atm1a, atm1b, atm1c, atm1s, cut_tail, decide_true, decide_false, Bool.and_true, Bool.true_and, Bool.and_false, Bool.false_and, Bool.or_true, Bool.or_false, Bool.true_or, Bool.false_or, List.map_cons, List.map_nil, List.length_cons, List.length_nil, List.replicate, List.cons_append, List.nil_append, List.getElem?_cons_zero, List.getElem?_cons_succ, List.set_cons_zero, List.set_cons_succ, List.set_nil, Nat.reduceAdd, Nat.reduceSub, Nat.reduceLeDiff, Nat.reduceLT, guard_tt, ↓reduceIte, Bool.false_eq_true, Bool.not_true, Bool.not_false, Nat.zero_add, den_read_x1_t3, den_read_x1_s3, den_read_x1_t4, den_read_x1_s4, den_read_x1_t5, rho, hf, gix_let hc, e_fset, e_kfset0, e_fldm, fld_at, fset_sg]
    rw [x3, turn_s5 T (a + 1) c F hT hc, hR]
    cases q : rdNums (cnt c) R with
    | bad p => rfl
    | ok k vs =>
      have hle := rdNums_le _ _ _ _ q
      show (Out.ok (Res.next (rho T (a + 1 + k) F (some (.d (.str (mkS [c])))) (some (.d (.bl true))) (some (.d (.str (wl c)))) none (some (.d (snD (c, vs)))) none))).bind (kSeq den_read_x1_t6) = endO T (addS F (c, vs)) (a + 1 + k) (T.drop (a + 1 + k))
      rw [ok_bind, e_seqn, turn_t6 T (a + 1 + k) c F vs hc (fun h => hb (by rw [← hcb]; simpa using h)) hF (fun w h => by have := hw w h; omega), turn_t8 T (a + 1 + k) (addS F (c, vs)) hT (by omega)]
theorem addL_len : ∀ (F : List (List Sn)) (s : Sn), F ≠ [] → (addL F s).length = F.length
  | [], s, h => absurd rfl h
  | [l], s, _ => rfl
  | l :: m :: r, s, _ => by
    show (addL (m :: r) s).length + 1 = _
    rw [addL_len (m :: r) s (by simp)]; rfl
theorem whileD_succ (t : Env → Out Bool) (f : Env → Out Res) (n : Nat) (ρ : Env) : whileD t f (n + 1) ρ = (t ρ).bind (kIf (fun ρ => (f ρ).bind fun r => match r with | .next ρ2 => whileD t f n ρ2 | .ret s => .ok (.ret s)) (fun ρ => .ok (.next ρ)) ρ) := by
  rw [whileD]
  exact congrArg _ (funext fun b => by cases b <;> rfl)
def loopO (T : List Nat) (r : Out Res) : RdA → Prop
  | .ok F => ∃ a, r = .ok (.next (rho0 T a F))
  | .bad p => r = refO p
  | .out => False
theorem read_loop (T : List Nat) (hT : T.length ≤ 50000) : ∀ (n fuel a : Nat) (F : List (List Sn)), (T.drop a).length < n → n < fuel → F.length ≤ 40 → (∀ w ∈ F, w.length ≤ 200) → (F = [] → a = 0) →
    loopO T (whileD rtest den_read_b1 fuel (rho0 T a F)) (rdA n F (begs T a F) (T.drop a) a)
  | 0, _, _, _, h, _, _, _, _ => absurd h (Nat.not_lt_zero _)
  | n + 1, 0, _, _, _, h, _, _, _ => absurd h (Nat.not_lt_zero _)
  | n + 1, fuel + 1, a, F, hn, hf, hF, hw, h0 => by
    rw [whileD_succ, test_t T a F hT, ok_bind]
    cases hd : T.drop a with
    | nil =>
      have : ¬ a < T.length := fun z => by
        have := congrArg List.length hd
        rw [List.length_drop, List.length_nil] at this; omega
      rw [decide_eq_false this]
      exact ⟨a, rfl⟩
    | cons c R =>
      have hlen := congrArg List.length hd
      rw [List.length_drop, List.length_cons] at hlen
      have hR : T.drop (a + 1) = R := by rw [← List.drop_drop, hd]; rfl
      rw [decide_eq_true (show a < T.length by omega), e_ift, turn_spec T a c R F hT hd hF hw]
      show loopO T _ (if badLet (begs T a F) F c = true then .bad a else rdGo (rdA n) F c R (a + 1) (rdNums (cnt c) R))
      cases hbad : badLet (begs T a F) F c with
      | true => rw [if_pos rfl, if_pos rfl]; rfl
      | false =>
        rw [if_neg Bool.false_ne_true, if_neg Bool.false_ne_true]
        cases q : rdNums (cnt c) R with
        | bad p => rfl
        | ok k vs =>
          have hle := rdNums_le _ _ _ _ q
          have hdk : R.drop k = T.drop (a + 1 + k) := by rw [← hR, List.drop_drop]
          show loopO T ((endO T (addS F (c, vs)) (a + 1 + k) (T.drop (a + 1 + k))).bind _) (rdTail (rdA n (addS F (c, vs))) (addS F (c, vs)) (a + 1 + k) (R.drop k))
          rw [hdk]
          -- what is kept
          have hF' : addS F (c, vs) ≠ [] ∧ (addS F (c, vs)).length ≤ 40 ∧ ∀ w ∈ addS F (c, vs), w.length ≤ 200 := by
            unfold badLet at hbad
            simp only [Bool.or_eq_false_iff, Bool.not_eq_false', Bool.and_eq_true, Bool.and_eq_false_iff] at hbad
            obtain ⟨⟨hl, hcb⟩, h40, h200⟩ := hbad
            unfold addS
            by_cases hc : c = 77
            · rw [if_pos hc]
              have : ¬ F.length = 40 := by
                rcases h40 with h | h
                · rw [hc] at h; cases h
                · simpa using h
              refine ⟨by simp, by rw [List.length_append, List.length_singleton]; omega, fun w hm => ?_⟩
              rcases List.mem_append.mp hm with hm | hm
              · exact hw w hm
              · rw [List.mem_singleton.mp hm, List.length_singleton]; omega
            · rw [if_neg hc]
              have hne : F ≠ [] := fun z => by
                have : (c == 77) = false := by simpa using hc
                rw [this, z] at hcb; cases hcb
              obtain ⟨G, w, rfl⟩ : ∃ G w, F = G ++ [w] := ⟨F.dropLast, F.getLast hne, (List.dropLast_concat_getLast hne).symm⟩
              have : ¬ w.length = 200 := by
                rcases h200 with h | h
                · simp at h; exact absurd h hc
                · rw [lastLen_app] at h; simpa using h
              have hww := hw w (by simp)
              rw [addL_app]
              refine ⟨by simp, by simpa using hF, fun x hm => ?_⟩
              rcases List.mem_append.mp hm with hm | hm
              · exact hw x (List.mem_append_left _ hm)
              · rw [List.mem_singleton.mp hm, List.length_append, List.length_singleton]; omega
          obtain ⟨f1, f2, f3⟩ := hF'
          generalize addS F (c, vs) = F' at *
          cases ht : T.drop (a + 1 + k) with
          | nil =>
            show loopO T (whileD rtest den_read_b1 fuel (rho0 T (a + 1 + k + 1) F')) (.ok F')
            cases fuel with
            | zero => omega
            | succ fuel =>
              have hge : ¬ a + 1 + k + 1 < T.length := by
                have := congrArg List.length ht
                rw [List.length_drop, List.length_nil] at this; omega
              rw [whileD_succ, test_t T _ F' hT, ok_bind, decide_eq_false hge]
              exact ⟨_, rfl⟩
          | cons e R2 =>
            have hl2 := congrArg List.length ht
            rw [List.length_drop, List.length_cons] at hl2
            rw [endO_cons]
            show loopO T _ (if e = 32 ∨ e = 10 then if R2 = [] then .bad (a + 1 + k + 1) else rdA n F' (e == 10) R2 (a + 1 + k + 1) else .bad (a + 1 + k))
            by_cases he : e = 32 ∨ e = 10
            · rw [if_pos he, if_pos he]
              by_cases hr : R2 = []
              · rw [if_pos hr, if_pos hr]; rfl
              · rw [if_neg hr, if_neg hr, ok_bind]
                have hR2 : T.drop (a + 1 + k + 1) = R2 := by rw [← List.drop_drop, ht]; rfl
                have hg : T[a + 1 + k]? = some e := by
                  have := List.getElem?_drop (xs := T) (i := a + 1 + k) (j := 0)
                  rw [ht] at this
                  simpa using this.symm
                have hb : begs T (a + 1 + k + 1) F' = (e == 10) := by
                  unfold begs
                  have z1 : F'.isEmpty = false := by cases F' with | nil => exact absurd rfl f1 | cons => rfl
                  rw [z1, decide_eq_true (show 0 < a + 1 + k + 1 by omega), Bool.false_or, Bool.true_and, Nat.add_sub_cancel, hg]
                  by_cases z : e = 10
                  · rw [z]; rfl
                  · rw [decide_eq_false (by simpa using z)]; simp [z]
                have ih := read_loop T hT n fuel (a + 1 + k + 1) F' (by rw [hR2]; rw [hd, List.length_cons] at hn; omega) (by omega) f2 f3 (fun z => absurd z f1)
                rw [hb, hR2] at ih
                exact ih
            · rw [if_neg he, if_neg he]; rfl
theorem read_spec (T : List Nat) (hT : T.length ≤ 50000) : (∀ F, rdA (T.length + 1) [] true T 0 = .ok F → m_read [.d (.str (mkS T))] = .ok (fS F)) ∧ (∀ p, rdA (T.length + 1) [] true T 0 = .bad p → m_read [.d (.str (mkS T))] = refO p) := by
  have lp := read_loop T hT (T.length + 1) 100000 0 [] (by rw [List.drop_zero]; omega) (by omega) (Nat.zero_le _) (fun w h => by cases h) (fun _ => rfl)
  rw [List.drop_zero, show begs T 0 [] = true from rfl] at lp
  have x1 : m_read [.d (.str (mkS T))] = endD ((whileD rtest den_read_b1 100000 (rho0 T 0 [])).bind (kSeq (sSeq (sRetV 2) sNext))) := by
    have e1 : mi_Signs [.d (.str (mkS T))] = .ok (signs T 0) := by
      simp (maxSteps := 2000000) (disch := omega) only [e_lend, e_lend1, e_lend2, e_lend3, e_lend4, e_lend5, e_lend6, e_oixx, e_oixx1, e_oixx2, e_oixx3, e_oixx4, e_sets, e_sets0, e_sets1, e_sets2, e_sets3, e_sets4, e_sets5, e_sets6, e_appall, e_all_0, e_all_1, e_all_2, e_lclA, e_lcl, e_klcl, e_joind, e_joins, e_revrd, e_addb, e_lstb, e_klstb, e_fld, e_kfld, e_meth, e_kmeth, e_kmethb, e_make, e_mko, e_init, e_kini, e_kinib, e_kinic, e_alld0, e_alld1, e_alld2, e_starti, e_flds2, e_kf1, e_kf2, e_seq, e_seqn, e_seqr, e_if, e_dif, e_ift, e_iff, e_ret, e_kret, e_retv, e_kretv, e_retn, e_asg, e_kasg, e_asge, e_kasge, e_drop, e_kdrop, e_next, e_exc, e_muts, e_mutb, e_mut, e_kmut, e_app, e_ext, e_ins, e_setb, e_kset, e_set, e_set0, e_nx, e_unp, e_kunp, e_par, e_kpar, e_par3, e_kpar3, e_for, e_kfor, e_while, e_try, e_tryk, e_tryx, e_appb, e_kappl, e_appl, e_app0, e_llof1, e_llof2, e_m2d, e_m2c, e_m2, e_m2a, e_c, e_v, e_kv, e_own, e_kown, e_vs, e_kvs1, e_kvs2, e_kvs3, e_kix, e_oix, e_koix1, e_koix2, e_oit, e_koit1, e_koit2, e_2b, e_2, e_k2, e_1, e_k1, e_a, e_tos, e_ktos, e_anil, e_consb, e_acons, e_scons, e_kcons, e_snil, e_tup, e_ktup, e_lst, e_klst, e_slcb, e_slca, e_slc, e_kslc, e_slc1, e_slc2, e_slc3, e_ono, e_oso, e_koso, e_and, e_andt, e_andf, e_or, e_ort, e_orf, e_not, e_knot, e_andv, e_orv, e_kandv, e_korv, e_andwt, e_andwf, e_orwt, e_orwf, e_chdt, e_chdf, e_chc, e_chb, e_ch, e_kch, e_tob, e_notd, e_knotd, e_neg, e_add, e_addt, e_adds, e_sub, e_lt, e_le, e_gt, e_ge, e_ixl, e_ixt, e_ixs, e_ixr, e_trn, e_trb, e_tri, e_trl, e_trt, e_trs, e_trr, e_lenl, e_lent, e_lens, e_lenr, e_abs, e_max, e_min, e_cat, e_list1, e_list2, e_tuple1, e_tuple2, e_isn, e_isnn, e_ns1, e_ns2, e_nns1, e_nns2, e_no1, e_no2, e_no3, e_no4, e_int1, e_int2, e_run, e_endn, e_endr, e_endx, e_start, e_w0, e_w1, e_frz, e_kfr, e_kfrb, e_name, e_namest, e_namesl, e_all0, e_all1, e_ktupt, e_ktupl, e_ktc, e_ktcons, e_ktnil, e_yes, e_scs, e_sc1, e_sc2, e_sc3, e_sc4, e_itl, e_itt, e_lca, e_lc, e_klc, e_l0, e_l1, e_kl1, e_kl2t, e_kl2f, e_kl3, e_lp0, e_lp1, e_klp, e_klpn, e_klpr, ok_bind, bind_exc, bind_stuck, fz_d, fz_l, fz_ll, oOf_some, noX_k, eqD_ii, neD_ii, eqD_in, neD_in, eqD_ss, gle, glt, mulL, mulR, divP, modP, rng1P, rng2P, at0, at1, at2, at3, at4, atm1a, atm1b, atm1c, atm1s, cut_tail, decide_true, decide_false, Bool.and_true, Bool.true_and, Bool.and_false, Bool.false_and, Bool.or_true, Bool.or_false, Bool.true_or, Bool.false_or, List.map_cons, List.map_nil, List.length_cons, List.length_nil, List.replicate, List.cons_append, List.nil_append, List.getElem?_cons_zero, List.getElem?_cons_succ, List.set_cons_zero, List.set_cons_succ, List.set_nil, Nat.reduceAdd, Nat.reduceSub, Nat.reduceLeDiff, Nat.reduceLT, guard_tt, ↓reduceIte, Bool.false_eq_true, Bool.not_true, Bool.not_false, Nat.zero_add, mi_Signs, e_initf, e_kinf]
      rfl
    have x : m_read [.d (.str (mkS T))] = endD ((whileD rtest den_read_b1 100000 [some (.d (.str (mkS T))), some (.m "Signs" (signs T 0)), some (.l []), none, none, none, none, none, none]).bind (kSeq (sSeq (sRetV 2) sNext))) := by
      simp (maxSteps := 2000000) (disch := omega) only [e_lend, e_lend1, e_lend2, e_lend3, e_lend4, e_lend5, e_lend6, e_oixx, e_oixx1, e_oixx2, e_oixx3, e_oixx4, e_sets, e_sets0, e_sets1, e_sets2, e_sets3, e_sets4, e_sets5, e_sets6, e_appall, e_all_0, e_all_1, e_all_2, e_lclA, e_lcl, e_klcl, e_joind, e_joins, e_revrd, e_addb, e_lstb, e_klstb, e_fld, e_kfld, e_meth, e_kmeth, e_kmethb, e_make, e_mko, e_init, e_kini, e_kinib, e_kinic, e_alld0, e_alld1, e_alld2, e_starti, e_flds2, e_kf1, e_kf2, e_seq, e_seqn, e_seqr, e_if, e_dif, e_ift, e_iff, e_ret, e_kret, e_retv, e_kretv, e_retn, e_asg, e_kasg, e_asge, e_kasge, e_drop, e_kdrop, e_next, e_exc, e_muts, e_mutb, e_mut, e_kmut, e_app, e_ext, e_ins, e_setb, e_kset, e_set, e_set0, e_nx, e_unp, e_kunp, e_par, e_kpar, e_par3, e_kpar3, e_for, e_kfor, e_while, e_try, e_tryk, e_tryx, e_appb, e_kappl, e_appl, e_app0, e_llof1, e_llof2, e_m2d, e_m2c, e_m2, e_m2a, e_c, e_v, e_kv, e_own, e_kown, e_vs, e_kvs1, e_kvs2, e_kvs3, e_kix, e_oix, e_koix1, e_koix2, e_oit, e_koit1, e_koit2, e_2b, e_2, e_k2, e_1, e_k1, e_a, e_tos, e_ktos, e_anil, e_consb, e_acons, e_scons, e_kcons, e_snil, e_tup, e_ktup, e_lst, e_klst, e_slcb, e_slca, e_slc, e_kslc, e_slc1, e_slc2, e_slc3, e_ono, e_oso, e_koso, e_and, e_andt, e_andf, e_or, e_ort, e_orf, e_not, e_knot, e_andv, e_orv, e_kandv, e_korv, e_andwt, e_andwf, e_orwt, e_orwf, e_chdt, e_chdf, e_chc, e_chb, e_ch, e_kch, e_tob, e_notd, e_knotd, e_neg, e_add, e_addt, e_adds, e_sub, e_lt, e_le, e_gt, e_ge, e_ixl, e_ixt, e_ixs, e_ixr, e_trn, e_trb, e_tri, e_trl, e_trt, e_trs, e_trr, e_lenl, e_lent, e_lens, e_lenr, e_abs, e_max, e_min, e_cat, e_list1, e_list2, e_tuple1, e_tuple2, e_isn, e_isnn, e_ns1, e_ns2, e_nns1, e_nns2, e_no1, e_no2, e_no3, e_no4, e_int1, e_int2, e_run, e_endn, e_endr, e_endx, e_start, e_w0, e_w1, e_frz, e_kfr, e_kfrb, e_name, e_namest, e_namesl, e_all0, e_all1, e_ktupt, e_ktupl, e_ktc, e_ktcons, e_ktnil, e_yes, e_scs, e_sc1, e_sc2, e_sc3, e_sc4, e_itl, e_itt, e_lca, e_lc, e_klc, e_l0, e_l1, e_kl1, e_kl2t, e_kl2f, e_kl3, e_lp0, e_lp1, e_klp, e_klpn, e_klpr, ok_bind, bind_exc, bind_stuck, fz_d, fz_l, fz_ll, oOf_some, noX_k, eqD_ii, neD_ii, eqD_in, neD_in, eqD_ss, gle, glt, mulL, mulR, divP, modP, rng1P, rng2P, at0, at1, at2, at3, at4, atm1a, atm1b, atm1c, atm1s, cut_tail, decide_true, decide_false, Bool.and_true, Bool.true_and, Bool.and_false, Bool.false_and, Bool.or_true, Bool.or_false, Bool.true_or, Bool.false_or, List.map_cons, List.map_nil, List.length_cons, List.length_nil, List.replicate, List.cons_append, List.nil_append, List.getElem?_cons_zero, List.getElem?_cons_succ, List.set_cons_zero, List.set_cons_succ, List.set_nil, Nat.reduceAdd, Nat.reduceSub, Nat.reduceLeDiff, Nat.reduceLT, guard_tt, ↓reduceIte, Bool.false_eq_true, Bool.not_true, Bool.not_false, Nat.zero_add, m_read, den_read, e_makem, e1, e_mkm, den_read_t1, den_read_s1, den_read_t2, den_read_s2, guard_t (show (0 : Nat) ≤ cap by decide)]
    exact x
  rw [x1]
  constructor
  · intro F h
    rw [h] at lp
    obtain ⟨a, e⟩ := lp
    rw [e, ok_bind, e_seqn]
    generalize hf : fS F = fs
    simp (maxSteps := 2000000) (disch := omega) only [e_lend, e_lend1, e_lend2, e_lend3, e_lend4, e_lend5, e_lend6, e_oixx, e_oixx1, e_oixx2, e_oixx3, e_oixx4, e_sets, e_sets0, e_sets1, e_sets2, e_sets3, e_sets4, e_sets5, e_sets6, e_appall, e_all_0, e_all_1, e_all_2, e_lclA, e_lcl, e_klcl, e_joind, e_joins, e_revrd, e_addb, e_lstb, e_klstb, e_fld, e_kfld, e_meth, e_kmeth, e_kmethb, e_make, e_mko, e_init, e_kini, e_kinib, e_kinic, e_alld0, e_alld1, e_alld2, e_starti, e_flds2, e_kf1, e_kf2, e_seq, e_seqn, e_seqr, e_if, e_dif, e_ift, e_iff, e_ret, e_kret, e_retv, e_kretv, e_retn, e_asg, e_kasg, e_asge, e_kasge, e_drop, e_kdrop, e_next, e_exc, e_muts, e_mutb, e_mut, e_kmut, e_app, e_ext, e_ins, e_setb, e_kset, e_set, e_set0, e_nx, e_unp, e_kunp, e_par, e_kpar, e_par3, e_kpar3, e_for, e_kfor, e_while, e_try, e_tryk, e_tryx, e_appb, e_kappl, e_appl, e_app0, e_llof1, e_llof2, e_m2d, e_m2c, e_m2, e_m2a, e_c, e_v, e_kv, e_own, e_kown, e_vs, e_kvs1, e_kvs2, e_kvs3, e_kix, e_oix, e_koix1, e_koix2, e_oit, e_koit1, e_koit2, e_2b, e_2, e_k2, e_1, e_k1, e_a, e_tos, e_ktos, e_anil, e_consb, e_acons, e_scons, e_kcons, e_snil, e_tup, e_ktup, e_lst, e_klst, e_slcb, e_slca, e_slc, e_kslc, e_slc1, e_slc2, e_slc3, e_ono, e_oso, e_koso, e_and, e_andt, e_andf, e_or, e_ort, e_orf, e_not, e_knot, e_andv, e_orv, e_kandv, e_korv, e_andwt, e_andwf, e_orwt, e_orwf, e_chdt, e_chdf, e_chc, e_chb, e_ch, e_kch, e_tob, e_notd, e_knotd, e_neg, e_add, e_addt, e_adds, e_sub, e_lt, e_le, e_gt, e_ge, e_ixl, e_ixt, e_ixs, e_ixr, e_trn, e_trb, e_tri, e_trl, e_trt, e_trs, e_trr, e_lenl, e_lent, e_lens, e_lenr, e_abs, e_max, e_min, e_cat, e_list1, e_list2, e_tuple1, e_tuple2, e_isn, e_isnn, e_ns1, e_ns2, e_nns1, e_nns2, e_no1, e_no2, e_no3, e_no4, e_int1, e_int2, e_run, e_endn, e_endr, e_endx, e_start, e_w0, e_w1, e_frz, e_kfr, e_kfrb, e_name, e_namest, e_namesl, e_all0, e_all1, e_ktupt, e_ktupl, e_ktc, e_ktcons, e_ktnil, e_yes, e_scs, e_sc1, e_sc2, e_sc3, e_sc4, e_itl, e_itt, e_lca, e_lc, e_klc, e_l0, e_l1, e_kl1, e_kl2t, e_kl2f, e_kl3, e_lp0, e_lp1, e_klp, e_klpn, e_klpr, ok_bind, bind_exc, bind_stuck, fz_d, fz_l, fz_ll, oOf_some, noX_k, eqD_ii, neD_ii, eqD_in, neD_in, eqD_ss, gle, glt, mulL, mulR, divP, modP, rng1P, rng2P, at0, at1, at2, at3, at4, atm1a, atm1b, atm1c, atm1s, cut_tail, decide_true, decide_false, Bool.and_true, Bool.true_and, Bool.and_false, Bool.false_and, Bool.or_true, Bool.or_false, Bool.true_or, Bool.false_or, List.map_cons, List.map_nil, List.length_cons, List.length_nil, List.replicate, List.cons_append, List.nil_append, List.getElem?_cons_zero, List.getElem?_cons_succ, List.set_cons_zero, List.set_cons_succ, List.set_nil, Nat.reduceAdd, Nat.reduceSub, Nat.reduceLeDiff, Nat.reduceLT, guard_tt, ↓reduceIte, Bool.false_eq_true, Bool.not_true, Bool.not_false, Nat.zero_add, rho, hf]
  · intro p h
    rw [h] at lp
    have lp : _ = refO p := lp
    rw [lp]; rfl
end G

set_option Elab.async false
set_option linter.all false
set_option maxRecDepth 100000
set_option maxHeartbeats 8000000
namespace G
open PySem L2
/-! ### texts of outlines -/
theorem join_mk (S : List Nat) (L : List (List Nat)) : Txt.join (mkS S) (L.map mkS) = mkS (TL.joinL S L) := by
  refine TL.ext_tl ?_
  rw [TL.join_eq, TL.tl_join, List.map_map]
  show TL.joinL S (L.map fun x => x) = TL.joinL S L
  rw [List.map_id']
theorem sum_le (B : Nat) : ∀ L : List (List Nat), (∀ l ∈ L, l.length ≤ B) → (L.map List.length).sum ≤ L.length * B
  | [], _ => by simp
  | x :: L, h => by
    have := sum_le B L fun l hl => h l (List.mem_cons_of_mem _ hl)
    have h1 := h x List.mem_cons_self
    rw [List.map_cons, List.sum_cons, List.length_cons, Nat.succ_mul]; omega
theorem joinD_mk (c : Nat) (L : List (List Nat)) (B : Nat) (h : ∀ l ∈ L, l.length ≤ B) (hb : L.length * (B + 1) ≤ 1000000) : joinD (mkS [c]) (.lst (L.map fun l => .str (mkS l))) = .ok (.str (mkS (TL.joinL [c] L))) := by
  show joinS (mkS [c]) (strsOf (L.map fun l => .str (mkS l))) = _
  rw [strs_map (fun l => mkS l) L]
  show guard' _ (Out.ok (D.str (Txt.join (mkS [c]) (L.map mkS)))) = _
  rw [join_mk]
  refine guard_t ?_
  have e1 : ((L.map fun l => mkS l).map (·.length)).sum = (L.map List.length).sum := by
    rw [List.map_map]
    exact congrArg List.sum (List.map_congr_left fun l _ => mkS_len l)
  rw [e1, List.length_map, mkS_len]
  have h1 := sum_le B L h
  rw [Nat.mul_succ] at hb
  simp only [List.length_cons, List.length_nil]
  omega
theorem joinL_len (c : Nat) (B : Nat) : ∀ L : List (List Nat), (∀ l ∈ L, l.length ≤ B) → (TL.joinL [c] L).length ≤ L.length * (B + 1)
  | [], _ => by show 0 ≤ _; omega
  | x :: L, h => by
    rw [joinL_cons, List.length_append]
    have h1 := h x List.mem_cons_self
    have key : ∀ L : List (List Nat), (∀ l ∈ L, l.length ≤ B) → ((L.map fun x => [c] ++ x).flatten).length ≤ L.length * (B + 1) := fun L => by
      induction L with
      | nil => intro _; simp
      | cons y L ih =>
        intro h
        have := ih fun l hl => h l (List.mem_cons_of_mem _ hl)
        have h1 := h y List.mem_cons_self
        rw [List.map_cons, List.flatten_cons, List.length_append, List.length_append, List.length_singleton, List.length_cons, Nat.succ_mul]; omega
    have := key L fun l hl => h l (List.mem_cons_of_mem _ hl)
    rw [List.length_cons, Nat.succ_mul]; omega
theorem numZ_len {v : Int} (h : inB v) : (numZ v).length ≤ 7 := by
  have h1 : (TL.numL v.natAbs).length ≤ 6 := TL.numL_len (by decide) (by have := h.1; have := h.2; omega)
  unfold numZ
  split
  · rw [List.length_cons]; omega
  · omega
theorem snT_join (s : Sn) : snT s = TL.joinL [32] ([s.1] :: s.2.map numZ) := by
  rw [joinL_cons, List.map_map]
  unfold snT
  rfl
theorem cnt_le (c : Nat) : cnt c ≤ 4 := by unfold cnt; split <;> omega
theorem snT_len {s : Sn} (h : OkS s) : (snT s).length ≤ 40 := by
  rw [snT_join]
  have := joinL_len 32 7 ([s.1] :: s.2.map numZ) fun l hl => by
    rcases List.mem_cons.mp hl with rfl | hl
    · simp
    · obtain ⟨v, hv, rfl⟩ := List.mem_map.mp hl
      exact numZ_len (h.b v hv)
  have h4 := cnt_le s.1
  rw [List.length_cons, List.length_map, h.n] at this
  omega
theorem didx_let {c : Nat} (h : isLet c = true) : didxD [("at", "M"), ("to", "L"), ("by", "Q")] (.str (wl c)) = .ok (.str (mkS [c])) := by
  rcases let_cases h with rfl | rfl | rfl
  · rw [← s_M]; rfl
  · rw [← s_L]; rfl
  · rw [← s_Q]; rfl
theorem nums_texts (ρ : Env) (i : Nat) (hi : i < ρ.length) (vs : List Int) (h : ∀ v ∈ vs, inB v) : lcD (kName i) yesT (dA strD (aCons (dV i) aNil)) ρ (vs.map .int) = .ok ((vs.map numZ).map fun l => .str (mkS l)) := by
  rw [lc_map (k := kName i) (el := dA strD (aCons (dV i) aNil)) (ρ := ρ) D.int (fun v => .str (mkS (numZ v))) vs (fun v hv => by
    have hb := h v hv
    have e : (ρ.set i (some (.d (.int v))))[i]? = some (some (.d (.int v))) := List.getElem?_set_self hi
    have hs := str_d (n := v) (by have := hb.1; have := hb.2; omega)
    simp (maxSteps := 2000000) (disch := omega) only [e_lend, e_lend1, e_lend2, e_lend3, e_lend4, e_lend5, e_lend6, e_oixx, e_oixx1, e_oixx2, e_oixx3, e_oixx4, e_sets, e_sets0, e_sets1, e_sets2, e_sets3, e_sets4, e_sets5, e_sets6, e_appall, e_all_0, e_all_1, e_all_2, e_lclA, e_lcl, e_klcl, e_joind, e_joins, e_revrd, e_addb, e_lstb, e_klstb, e_fld, e_kfld, e_meth, e_kmeth, e_kmethb, e_make, e_mko, e_init, e_kini, e_kinib, e_kinic, e_alld0, e_alld1, e_alld2, e_starti, e_flds2, e_kf1, e_kf2, e_seq, e_seqn, e_seqr, e_if, e_dif, e_ift, e_iff, e_ret, e_kret, e_retv, e_kretv, e_retn, e_asg, e_kasg, e_asge, e_kasge, e_drop, e_kdrop, e_next, e_exc, e_muts, e_mutb, e_mut, e_kmut, e_app, e_ext, e_ins, e_setb, e_kset, e_set, e_set0, e_nx, e_unp, e_kunp, e_par, e_kpar, e_par3, e_kpar3, e_for, e_kfor, e_while, e_try, e_tryk, e_tryx, e_appb, e_kappl, e_appl, e_app0, e_llof1, e_llof2, e_m2d, e_m2c, e_m2, e_m2a, e_c, e_v, e_kv, e_own, e_kown, e_vs, e_kvs1, e_kvs2, e_kvs3, e_kix, e_oix, e_koix1, e_koix2, e_oit, e_koit1, e_koit2, e_2b, e_2, e_k2, e_1, e_k1, e_a, e_tos, e_ktos, e_anil, e_consb, e_acons, e_scons, e_kcons, e_snil, e_tup, e_ktup, e_lst, e_klst, e_slcb, e_slca, e_slc, e_kslc, e_slc1, e_slc2, e_slc3, e_ono, e_oso, e_koso, e_and, e_andt, e_andf, e_or, e_ort, e_orf, e_not, e_knot, e_andv, e_orv, e_kandv, e_korv, e_andwt, e_andwf, e_orwt, e_orwf, e_chdt, e_chdf, e_chc, e_chb, e_ch, e_kch, e_tob, e_notd, e_knotd, e_neg, e_add, e_addt, e_adds, e_sub, e_lt, e_le, e_gt, e_ge, e_ixl, e_ixt, e_ixs, e_ixr, e_trn, e_trb, e_tri, e_trl, e_trt, e_trs, e_trr, e_lenl, e_lent, e_lens, e_lenr, e_abs, e_max, e_min, e_cat, e_list1, e_list2, e_tuple1, e_tuple2, e_isn, e_isnn, e_ns1, e_ns2, e_nns1, e_nns2, e_no1, e_no2, e_no3, e_no4, e_int1, e_int2, e_run, e_endn, e_endr, e_endx, e_start, e_w0, e_w1, e_frz, e_kfr, e_kfrb, e_name, e_namest, e_namesl, e_all0, e_all1, e_ktupt, e_ktupl, e_ktc, e_ktcons, e_ktnil, e_yes, e_scs, e_sc1, e_sc2, e_sc3, e_sc4, e_itl, e_itt, e_lca, e_lc, e_klc, e_l0, e_l1, e_kl1, e_kl2t, e_kl2f, e_kl3, e_lp0, e_lp1, e_klp, e_klpn, e_klpr, ok_bind, bind_exc, bind_stuck, fz_d, fz_l, fz_ll, oOf_some, noX_k, eqD_ii, neD_ii, eqD_in, neD_in, eqD_ss, gle, glt, mulL, mulR, divP, modP, rng1P, rng2P, at0, at1, at2, at3, at4, atm1a, atm1b, atm1c, atm1s, cut_tail, decide_true, decide_false, Bool.and_true, Bool.true_and, Bool.and_false, Bool.false_and, Bool.or_true, Bool.or_false, Bool.true_or, Bool.false_or, List.map_cons, List.map_nil, List.length_cons, List.length_nil, List.replicate, List.cons_append, List.nil_append, List.getElem?_cons_zero, List.getElem?_cons_succ, List.set_cons_zero, List.set_cons_succ, List.set_nil, Nat.reduceAdd, Nat.reduceSub, Nat.reduceLeDiff, Nat.reduceLT, guard_tt, ↓reduceIte, Bool.false_eq_true, Bool.not_true, Bool.not_false, Nat.zero_add, e, hs]), List.map_map]
  rfl
theorem step_join {s : Sn} (h : OkS s) : joinD (mkS [32]) (.lst (.str (mkS [s.1]) :: (s.2.map numZ).map fun l => .str (mkS l))) = .ok (.str (mkS (snT s))) := by
  rw [snT_join]
  have h4 := cnt_le s.1
  refine joinD_mk 32 ([s.1] :: s.2.map numZ) 7 (fun l hl => ?_) ?_
  · rcases List.mem_cons.mp hl with rfl | hl
    · simp
    · obtain ⟨v, hv, rfl⟩ := List.mem_map.mp hl
      exact numZ_len (h.b v hv)
  · rw [List.length_cons, List.length_map, h.n]; omega
theorem law_step_text_spec {s : Sn} (h : OkS s) : m__law_step_text [.d (snD s)] = .ok (.d (.str (mkS (snT s)))) := by
  have hd := didx_let h.l
  have hj := step_join h
  have h4 := cnt_le s.1
  have hn := h.n
  have hb := h.b
  obtain ⟨c, vs⟩ := s
  dsimp only at *
  have hl := nums_texts [some (.d (snD (c, vs))), none] 1 (by simp) vs hb
  have hv : vs.length ≤ 4 := by omega
  unfold snD at hl ⊢
  dsimp only at *
  generalize hN : (vs.map numZ).map (fun l => D.str (mkS l)) = N at *
  have hNl : N.length = vs.length := by rw [← hN, List.length_map, List.length_map]
  have hVl : (vs.map D.int).length = vs.length := List.length_map _
  generalize vs.map D.int = V at *
  simp (maxSteps := 2000000) (disch := omega) only [e_lend, e_lend1, e_lend2, e_lend3, e_lend4, e_lend5, e_lend6, e_oixx, e_oixx1, e_oixx2, e_oixx3, e_oixx4, e_sets, e_sets0, e_sets1, e_sets2, e_sets3, e_sets4, e_sets5, e_sets6, e_appall, e_all_0, e_all_1, e_all_2, e_lclA, e_lcl, e_klcl, e_joind, e_joins, e_revrd, e_addb, e_lstb, e_klstb, e_fld, e_kfld, e_meth, e_kmeth, e_kmethb, e_make, e_mko, e_init, e_kini, e_kinib, e_kinic, e_alld0, e_alld1, e_alld2, e_starti, e_flds2, e_kf1, e_kf2, e_seq, e_seqn, e_seqr, e_if, e_dif, e_ift, e_iff, e_ret, e_kret, e_retv, e_kretv, e_retn, e_asg, e_kasg, e_asge, e_kasge, e_drop, e_kdrop, e_next, e_exc, e_muts, e_mutb, e_mut, e_kmut, e_app, e_ext, e_ins, e_setb, e_kset, e_set, e_set0, e_nx, e_unp, e_kunp, e_par, e_kpar, e_par3, e_kpar3, e_for, e_kfor, e_while, e_try, e_tryk, e_tryx, e_appb, e_kappl, e_appl, e_app0, e_llof1, e_llof2, e_m2d, e_m2c, e_m2, e_m2a, e_c, e_v, e_kv, e_own, e_kown, e_vs, e_kvs1, e_kvs2, e_kvs3, e_kix, e_oix, e_koix1, e_koix2, e_oit, e_koit1, e_koit2, e_2b, e_2, e_k2, e_1, e_k1, e_a, e_tos, e_ktos, e_anil, e_consb, e_acons, e_scons, e_kcons, e_snil, e_tup, e_ktup, e_lst, e_klst, e_slcb, e_slca, e_slc, e_kslc, e_slc1, e_slc2, e_slc3, e_ono, e_oso, e_koso, e_and, e_andt, e_andf, e_or, e_ort, e_orf, e_not, e_knot, e_andv, e_orv, e_kandv, e_korv, e_andwt, e_andwf, e_orwt, e_orwf, e_chdt, e_chdf, e_chc, e_chb, e_ch, e_kch, e_tob, e_notd, e_knotd, e_neg, e_add, e_addt, e_adds, e_sub, e_lt, e_le, e_gt, e_ge, e_ixl, e_ixt, e_ixs, e_ixr, e_trn, e_trb, e_tri, e_trl, e_trt, e_trs, e_trr, e_lenl, e_lent, e_lens, e_lenr, e_abs, e_max, e_min, e_cat, e_list1, e_list2, e_tuple1, e_tuple2, e_isn, e_isnn, e_ns1, e_ns2, e_nns1, e_nns2, e_no1, e_no2, e_no3, e_no4, e_int1, e_int2, e_run, e_endn, e_endr, e_endx, e_start, e_w0, e_w1, e_frz, e_kfr, e_kfrb, e_name, e_namest, e_namesl, e_all0, e_all1, e_ktupt, e_ktupl, e_ktc, e_ktcons, e_ktnil, e_yes, e_scs, e_sc1, e_sc2, e_sc3, e_sc4, e_itl, e_itt, e_lca, e_lc, e_klc, e_l0, e_l1, e_kl1, e_kl2t, e_kl2f, e_kl3, e_lp0, e_lp1, e_klp, e_klpn, e_klpr, ok_bind, bind_exc, bind_stuck, fz_d, fz_l, fz_ll, oOf_some, noX_k, eqD_ii, neD_ii, eqD_in, neD_in, eqD_ss, gle, glt, mulL, mulR, divP, modP, rng1P, rng2P, at0, at1, at2, at3, at4, atm1a, atm1b, atm1c, atm1s, cut_tail, decide_true, decide_false, Bool.and_true, Bool.true_and, Bool.and_false, Bool.false_and, Bool.or_true, Bool.or_false, Bool.true_or, Bool.false_or, List.map_cons, List.map_nil, List.length_cons, List.length_nil, List.replicate, List.cons_append, List.nil_append, List.getElem?_cons_zero, List.getElem?_cons_succ, List.set_cons_zero, List.set_cons_succ, List.set_nil, Nat.reduceAdd, Nat.reduceSub, Nat.reduceLeDiff, Nat.reduceLT, guard_tt, ↓reduceIte, Bool.false_eq_true, Bool.not_true, Bool.not_false, Nat.zero_add, m__law_step_text, den__law_step_text, hd, hl, hNl, hVl, s_blank, hj]
theorem eqW (a b : Str) (q : Bool) (h : (a == b) = q) : (a == b) = q := h
theorem step_text_spec {s : Sn} (h : OkS s) : m_step_text [.d (snD s)] = .ok (.d (.str (mkS (snT s)))) := by
  have hj := step_join h
  have h4 := cnt_le s.1
  have hn := h.n
  have hb := h.b
  have hL := h.l
  obtain ⟨c, vs⟩ := s
  dsimp only at *
  have hv : vs.length ≤ 4 := by omega
  have g1 : gidxT tt_LETTERS (.str "M") = .ok (.str "at") := (rfl)
  have g2 : gidxT tt_LETTERS (.str "L") = .ok (.str "to") := (rfl)
  have g3 : gidxT tt_LETTERS (.str "Q") = .ok (.str "by") := (rfl)
  have e12 : (("at" : Str) == "to") = false := by decide +kernel
  have e13 : (("at" : Str) == "by") = false := by decide +kernel
  have e21 : (("to" : Str) == "at") = false := by decide +kernel
  have e23 : (("to" : Str) == "by") = false := by decide +kernel
  have e31 : (("by" : Str) == "at") = false := by decide +kernel
  have e32 : (("by" : Str) == "to") = false := by decide +kernel
  have it : ∀ ρ : Env, itT' tt_LETTERS ρ = .ok [.str "M", .str "L", .str "Q"] := fun _ => (rfl)
  have x1 : m_step_text [.d (snD (c, vs))] = endD ((sRet (fun ρ => ((d1 (joinD " ") (fun ρ => ((d2 catS (fun ρ => ((lstD (aCons (dV 2) aNil)) ρ).bind S.fz) (fun ρ => ((dLc [3] (d1 itT (fun ρ => ((dSlc (dV 0) (oSo (dC (.int 1))) oNo) ρ).bind S.fz)) (kName 3) yesT (dA strD (aCons (dV 3) aNil))) ρ).bind S.fz)) ρ).bind S.fz)) ρ).bind fun d => .ok (.d d)) [some (.d (snD (c, vs))), none, some (.d (.str (mkS [c]))), none]).bind (kSeq sNext)) := by
    rcases let_cases hL with e | e | e
    · have : wl c = "at" := by rw [e]; rfl
      have hl : mkS [c] = "M" := by rw [e, s_M]
      rw [hl]
      unfold snD
      dsimp only at *
      rw [this] at *
      simp (maxSteps := 2000000) (disch := omega) only [e_lend, e_lend1, e_lend2, e_lend3, e_lend4, e_lend5, e_lend6, e_oixx, e_oixx1, e_oixx2, e_oixx3, e_oixx4, e_sets, e_sets0, e_sets1, e_sets2, e_sets3, e_sets4, e_sets5, e_sets6, e_appall, e_all_0, e_all_1, e_all_2, e_lclA, e_lcl, e_klcl, e_joind, e_joins, e_revrd, e_addb, e_lstb, e_klstb, e_fld, e_kfld, e_meth, e_kmeth, e_kmethb, e_make, e_mko, e_init, e_kini, e_kinib, e_kinic, e_alld0, e_alld1, e_alld2, e_starti, e_flds2, e_kf1, e_kf2, e_seq, e_seqn, e_seqr, e_if, e_dif, e_ift, e_iff, e_ret, e_kret, e_retv, e_kretv, e_retn, e_asg, e_kasg, e_asge, e_kasge, e_drop, e_kdrop, e_next, e_exc, e_muts, e_mutb, e_mut, e_kmut, e_app, e_ext, e_ins, e_setb, e_kset, e_set, e_set0, e_nx, e_unp, e_kunp, e_par, e_kpar, e_par3, e_kpar3, e_for, e_kfor, e_while, e_try, e_tryk, e_tryx, e_appb, e_kappl, e_appl, e_app0, e_llof1, e_llof2, e_m2d, e_m2c, e_m2, e_m2a, e_c, e_v, e_kv, e_own, e_kown, e_vs, e_kvs1, e_kvs2, e_kvs3, e_kix, e_oix, e_koix1, e_koix2, e_oit, e_koit1, e_koit2, e_2b, e_2, e_k2, e_1, e_k1, e_a, e_tos, e_ktos, e_anil, e_consb, e_acons, e_scons, e_kcons, e_snil, e_tup, e_ktup, e_lst, e_klst, e_slcb, e_slca, e_slc, e_kslc, e_slc1, e_slc2, e_slc3, e_ono, e_oso, e_koso, e_and, e_andt, e_andf, e_or, e_ort, e_orf, e_not, e_knot, e_andv, e_orv, e_kandv, e_korv, e_andwt, e_andwf, e_orwt, e_orwf, e_chdt, e_chdf, e_chc, e_chb, e_ch, e_kch, e_tob, e_notd, e_knotd, e_neg, e_add, e_addt, e_adds, e_sub, e_lt, e_le, e_gt, e_ge, e_ixl, e_ixt, e_ixs, e_ixr, e_trn, e_trb, e_tri, e_trl, e_trt, e_trs, e_trr, e_lenl, e_lent, e_lens, e_lenr, e_abs, e_max, e_min, e_cat, e_list1, e_list2, e_tuple1, e_tuple2, e_isn, e_isnn, e_ns1, e_ns2, e_nns1, e_nns2, e_no1, e_no2, e_no3, e_no4, e_int1, e_int2, e_run, e_endn, e_endr, e_endx, e_start, e_w0, e_w1, e_frz, e_kfr, e_kfrb, e_name, e_namest, e_namesl, e_all0, e_all1, e_ktupt, e_ktupl, e_ktc, e_ktcons, e_ktnil, e_yes, e_scs, e_sc1, e_sc2, e_sc3, e_sc4, e_itl, e_itt, e_lca, e_lc, e_klc, e_l0, e_l1, e_kl1, e_kl2t, e_kl2f, e_kl3, e_lp0, e_lp1, e_klp, e_klpn, e_klpr, ok_bind, bind_exc, bind_stuck, fz_d, fz_l, fz_ll, oOf_some, noX_k, eqD_ii, neD_ii, eqD_in, neD_in, eqD_ss, gle, glt, mulL, mulR, divP, modP, rng1P, rng2P, at0, at1, at2, at3, at4, atm1a, atm1b, atm1c, atm1s, cut_tail, decide_true, decide_false, Bool.and_true, Bool.true_and, Bool.and_false, Bool.false_and, Bool.or_true, Bool.or_false, Bool.true_or, Bool.false_or, List.map_cons, List.map_nil, List.length_cons, List.length_nil, List.replicate, List.cons_append, List.nil_append, List.getElem?_cons_zero, List.getElem?_cons_succ, List.set_cons_zero, List.set_cons_succ, List.set_nil, Nat.reduceAdd, Nat.reduceSub, Nat.reduceLeDiff, Nat.reduceLT, guard_tt, ↓reduceIte, Bool.false_eq_true, Bool.not_true, Bool.not_false, Nat.zero_add, m_step_text, den_step_text, it, g1, g2, g3, e12, e13, e21, e23, e31, e32, BEq.rfl]
    · have : wl c = "to" := by rw [e]; rfl
      have hl : mkS [c] = "L" := by rw [e, s_L]
      rw [hl]
      unfold snD
      dsimp only at *
      rw [this] at *
      simp (maxSteps := 2000000) (disch := omega) only [e_lend, e_lend1, e_lend2, e_lend3, e_lend4, e_lend5, e_lend6, e_oixx, e_oixx1, e_oixx2, e_oixx3, e_oixx4, e_sets, e_sets0, e_sets1, e_sets2, e_sets3, e_sets4, e_sets5, e_sets6, e_appall, e_all_0, e_all_1, e_all_2, e_lclA, e_lcl, e_klcl, e_joind, e_joins, e_revrd, e_addb, e_lstb, e_klstb, e_fld, e_kfld, e_meth, e_kmeth, e_kmethb, e_make, e_mko, e_init, e_kini, e_kinib, e_kinic, e_alld0, e_alld1, e_alld2, e_starti, e_flds2, e_kf1, e_kf2, e_seq, e_seqn, e_seqr, e_if, e_dif, e_ift, e_iff, e_ret, e_kret, e_retv, e_kretv, e_retn, e_asg, e_kasg, e_asge, e_kasge, e_drop, e_kdrop, e_next, e_exc, e_muts, e_mutb, e_mut, e_kmut, e_app, e_ext, e_ins, e_setb, e_kset, e_set, e_set0, e_nx, e_unp, e_kunp, e_par, e_kpar, e_par3, e_kpar3, e_for, e_kfor, e_while, e_try, e_tryk, e_tryx, e_appb, e_kappl, e_appl, e_app0, e_llof1, e_llof2, e_m2d, e_m2c, e_m2, e_m2a, e_c, e_v, e_kv, e_own, e_kown, e_vs, e_kvs1, e_kvs2, e_kvs3, e_kix, e_oix, e_koix1, e_koix2, e_oit, e_koit1, e_koit2, e_2b, e_2, e_k2, e_1, e_k1, e_a, e_tos, e_ktos, e_anil, e_consb, e_acons, e_scons, e_kcons, e_snil, e_tup, e_ktup, e_lst, e_klst, e_slcb, e_slca, e_slc, e_kslc, e_slc1, e_slc2, e_slc3, e_ono, e_oso, e_koso, e_and, e_andt, e_andf, e_or, e_ort, e_orf, e_not, e_knot, e_andv, e_orv, e_kandv, e_korv, e_andwt, e_andwf, e_orwt, e_orwf, e_chdt, e_chdf, e_chc, e_chb, e_ch, e_kch, e_tob, e_notd, e_knotd, e_neg, e_add, e_addt, e_adds, e_sub, e_lt, e_le, e_gt, e_ge, e_ixl, e_ixt, e_ixs, e_ixr, e_trn, e_trb, e_tri, e_trl, e_trt, e_trs, e_trr, e_lenl, e_lent, e_lens, e_lenr, e_abs, e_max, e_min, e_cat, e_list1, e_list2, e_tuple1, e_tuple2, e_isn, e_isnn, e_ns1, e_ns2, e_nns1, e_nns2, e_no1, e_no2, e_no3, e_no4, e_int1, e_int2, e_run, e_endn, e_endr, e_endx, e_start, e_w0, e_w1, e_frz, e_kfr, e_kfrb, e_name, e_namest, e_namesl, e_all0, e_all1, e_ktupt, e_ktupl, e_ktc, e_ktcons, e_ktnil, e_yes, e_scs, e_sc1, e_sc2, e_sc3, e_sc4, e_itl, e_itt, e_lca, e_lc, e_klc, e_l0, e_l1, e_kl1, e_kl2t, e_kl2f, e_kl3, e_lp0, e_lp1, e_klp, e_klpn, e_klpr, ok_bind, bind_exc, bind_stuck, fz_d, fz_l, fz_ll, oOf_some, noX_k, eqD_ii, neD_ii, eqD_in, neD_in, eqD_ss, gle, glt, mulL, mulR, divP, modP, rng1P, rng2P, at0, at1, at2, at3, at4, atm1a, atm1b, atm1c, atm1s, cut_tail, decide_true, decide_false, Bool.and_true, Bool.true_and, Bool.and_false, Bool.false_and, Bool.or_true, Bool.or_false, Bool.true_or, Bool.false_or, List.map_cons, List.map_nil, List.length_cons, List.length_nil, List.replicate, List.cons_append, List.nil_append, List.getElem?_cons_zero, List.getElem?_cons_succ, List.set_cons_zero, List.set_cons_succ, List.set_nil, Nat.reduceAdd, Nat.reduceSub, Nat.reduceLeDiff, Nat.reduceLT, guard_tt, ↓reduceIte, Bool.false_eq_true, Bool.not_true, Bool.not_false, Nat.zero_add, m_step_text, den_step_text, it, g1, g2, g3, e12, e13, e21, e23, e31, e32, BEq.rfl]
    · have : wl c = "by" := by rw [e]; rfl
      have hl : mkS [c] = "Q" := by rw [e, s_Q]
      rw [hl]
      unfold snD
      dsimp only at *
      rw [this] at *
      simp (maxSteps := 2000000) (disch := omega) only [e_lend, e_lend1, e_lend2, e_lend3, e_lend4, e_lend5, e_lend6, e_oixx, e_oixx1, e_oixx2, e_oixx3, e_oixx4, e_sets, e_sets0, e_sets1, e_sets2, e_sets3, e_sets4, e_sets5, e_sets6, e_appall, e_all_0, e_all_1, e_all_2, e_lclA, e_lcl, e_klcl, e_joind, e_joins, e_revrd, e_addb, e_lstb, e_klstb, e_fld, e_kfld, e_meth, e_kmeth, e_kmethb, e_make, e_mko, e_init, e_kini, e_kinib, e_kinic, e_alld0, e_alld1, e_alld2, e_starti, e_flds2, e_kf1, e_kf2, e_seq, e_seqn, e_seqr, e_if, e_dif, e_ift, e_iff, e_ret, e_kret, e_retv, e_kretv, e_retn, e_asg, e_kasg, e_asge, e_kasge, e_drop, e_kdrop, e_next, e_exc, e_muts, e_mutb, e_mut, e_kmut, e_app, e_ext, e_ins, e_setb, e_kset, e_set, e_set0, e_nx, e_unp, e_kunp, e_par, e_kpar, e_par3, e_kpar3, e_for, e_kfor, e_while, e_try, e_tryk, e_tryx, e_appb, e_kappl, e_appl, e_app0, e_llof1, e_llof2, e_m2d, e_m2c, e_m2, e_m2a, e_c, e_v, e_kv, e_own, e_kown, e_vs, e_kvs1, e_kvs2, e_kvs3, e_kix, e_oix, e_koix1, e_koix2, e_oit, e_koit1, e_koit2, e_2b, e_2, e_k2, e_1, e_k1, e_a, e_tos, e_ktos, e_anil, e_consb, e_acons, e_scons, e_kcons, e_snil, e_tup, e_ktup, e_lst, e_klst, e_slcb, e_slca, e_slc, e_kslc, e_slc1, e_slc2, e_slc3, e_ono, e_oso, e_koso, e_and, e_andt, e_andf, e_or, e_ort, e_orf, e_not, e_knot, e_andv, e_orv, e_kandv, e_korv, e_andwt, e_andwf, e_orwt, e_orwf, e_chdt, e_chdf, e_chc, e_chb, e_ch, e_kch, e_tob, e_notd, e_knotd, e_neg, e_add, e_addt, e_adds, e_sub, e_lt, e_le, e_gt, e_ge, e_ixl, e_ixt, e_ixs, e_ixr, e_trn, e_trb, e_tri, e_trl, e_trt, e_trs, e_trr, e_lenl, e_lent, e_lens, e_lenr, e_abs, e_max, e_min, e_cat, e_list1, e_list2, e_tuple1, e_tuple2, e_isn, e_isnn, e_ns1, e_ns2, e_nns1, e_nns2, e_no1, e_no2, e_no3, e_no4, e_int1, e_int2, e_run, e_endn, e_endr, e_endx, e_start, e_w0, e_w1, e_frz, e_kfr, e_kfrb, e_name, e_namest, e_namesl, e_all0, e_all1, e_ktupt, e_ktupl, e_ktc, e_ktcons, e_ktnil, e_yes, e_scs, e_sc1, e_sc2, e_sc3, e_sc4, e_itl, e_itt, e_lca, e_lc, e_klc, e_l0, e_l1, e_kl1, e_kl2t, e_kl2f, e_kl3, e_lp0, e_lp1, e_klp, e_klpn, e_klpr, ok_bind, bind_exc, bind_stuck, fz_d, fz_l, fz_ll, oOf_some, noX_k, eqD_ii, neD_ii, eqD_in, neD_in, eqD_ss, gle, glt, mulL, mulR, divP, modP, rng1P, rng2P, at0, at1, at2, at3, at4, atm1a, atm1b, atm1c, atm1s, cut_tail, decide_true, decide_false, Bool.and_true, Bool.true_and, Bool.and_false, Bool.false_and, Bool.or_true, Bool.or_false, Bool.true_or, Bool.false_or, List.map_cons, List.map_nil, List.length_cons, List.length_nil, List.replicate, List.cons_append, List.nil_append, List.getElem?_cons_zero, List.getElem?_cons_succ, List.set_cons_zero, List.set_cons_succ, List.set_nil, Nat.reduceAdd, Nat.reduceSub, Nat.reduceLeDiff, Nat.reduceLT, guard_tt, ↓reduceIte, Bool.false_eq_true, Bool.not_true, Bool.not_false, Nat.zero_add, m_step_text, den_step_text, it, g1, g2, g3, e12, e13, e21, e23, e31, e32, BEq.rfl]
  rw [x1]
  have hl := nums_texts [some (.d (snD (c, vs))), none, some (.d (.str (mkS [c]))), none] 3 (by simp) vs hb
  unfold snD at hl ⊢
  dsimp only at *
  generalize hN : (vs.map numZ).map (fun l => D.str (mkS l)) = N at *
  have hNl : N.length = vs.length := by rw [← hN, List.length_map, List.length_map]
  have hVl : (vs.map D.int).length = vs.length := List.length_map _
  generalize vs.map D.int = V at *
  simp (maxSteps := 2000000) (disch := omega) only [e_lend, e_lend1, e_lend2, e_lend3, e_lend4, e_lend5, e_lend6, e_oixx, e_oixx1, e_oixx2, e_oixx3, e_oixx4, e_sets, e_sets0, e_sets1, e_sets2, e_sets3, e_sets4, e_sets5, e_sets6, e_appall, e_all_0, e_all_1, e_all_2, e_lclA, e_lcl, e_klcl, e_joind, e_joins, e_revrd, e_addb, e_lstb, e_klstb, e_fld, e_kfld, e_meth, e_kmeth, e_kmethb, e_make, e_mko, e_init, e_kini, e_kinib, e_kinic, e_alld0, e_alld1, e_alld2, e_starti, e_flds2, e_kf1, e_kf2, e_seq, e_seqn, e_seqr, e_if, e_dif, e_ift, e_iff, e_ret, e_kret, e_retv, e_kretv, e_retn, e_asg, e_kasg, e_asge, e_kasge, e_drop, e_kdrop, e_next, e_exc, e_muts, e_mutb, e_mut, e_kmut, e_app, e_ext, e_ins, e_setb, e_kset, e_set, e_set0, e_nx, e_unp, e_kunp, e_par, e_kpar, e_par3, e_kpar3, e_for, e_kfor, e_while, e_try, e_tryk, e_tryx, e_appb, e_kappl, e_appl, e_app0, e_llof1, e_llof2, e_m2d, e_m2c, e_m2, e_m2a, e_c, e_v, e_kv, e_own, e_kown, e_vs, e_kvs1, e_kvs2, e_kvs3, e_kix, e_oix, e_koix1, e_koix2, e_oit, e_koit1, e_koit2, e_2b, e_2, e_k2, e_1, e_k1, e_a, e_tos, e_ktos, e_anil, e_consb, e_acons, e_scons, e_kcons, e_snil, e_tup, e_ktup, e_lst, e_klst, e_slcb, e_slca, e_slc, e_kslc, e_slc1, e_slc2, e_slc3, e_ono, e_oso, e_koso, e_and, e_andt, e_andf, e_or, e_ort, e_orf, e_not, e_knot, e_andv, e_orv, e_kandv, e_korv, e_andwt, e_andwf, e_orwt, e_orwf, e_chdt, e_chdf, e_chc, e_chb, e_ch, e_kch, e_tob, e_notd, e_knotd, e_neg, e_add, e_addt, e_adds, e_sub, e_lt, e_le, e_gt, e_ge, e_ixl, e_ixt, e_ixs, e_ixr, e_trn, e_trb, e_tri, e_trl, e_trt, e_trs, e_trr, e_lenl, e_lent, e_lens, e_lenr, e_abs, e_max, e_min, e_cat, e_list1, e_list2, e_tuple1, e_tuple2, e_isn, e_isnn, e_ns1, e_ns2, e_nns1, e_nns2, e_no1, e_no2, e_no3, e_no4, e_int1, e_int2, e_run, e_endn, e_endr, e_endx, e_start, e_w0, e_w1, e_frz, e_kfr, e_kfrb, e_name, e_namest, e_namesl, e_all0, e_all1, e_ktupt, e_ktupl, e_ktc, e_ktcons, e_ktnil, e_yes, e_scs, e_sc1, e_sc2, e_sc3, e_sc4, e_itl, e_itt, e_lca, e_lc, e_klc, e_l0, e_l1, e_kl1, e_kl2t, e_kl2f, e_kl3, e_lp0, e_lp1, e_klp, e_klpn, e_klpr, ok_bind, bind_exc, bind_stuck, fz_d, fz_l, fz_ll, oOf_some, noX_k, eqD_ii, neD_ii, eqD_in, neD_in, eqD_ss, gle, glt, mulL, mulR, divP, modP, rng1P, rng2P, at0, at1, at2, at3, at4, atm1a, atm1b, atm1c, atm1s, cut_tail, decide_true, decide_false, Bool.and_true, Bool.true_and, Bool.and_false, Bool.false_and, Bool.or_true, Bool.or_false, Bool.true_or, Bool.false_or, List.map_cons, List.map_nil, List.length_cons, List.length_nil, List.replicate, List.cons_append, List.nil_append, List.getElem?_cons_zero, List.getElem?_cons_succ, List.set_cons_zero, List.set_cons_succ, List.set_nil, Nat.reduceAdd, Nat.reduceSub, Nat.reduceLeDiff, Nat.reduceLT, guard_tt, ↓reduceIte, Bool.false_eq_true, Bool.not_true, Bool.not_false, Nat.zero_add, hl, hNl, hVl, s_blank, hj]
theorem wayT_len {w : List Sn} (h : ∀ s ∈ w, OkS s) (hl : w.length ≤ 200) : (TL.joinL [32] (w.map snT)).length ≤ 8200 := by
  have := joinL_len 32 40 (w.map snT) fun l hl => by
    obtain ⟨s, hs, rfl⟩ := List.mem_map.mp hl
    exact snT_len (h s hs)
  rw [List.length_map] at this; omega
theorem way_join {w : List Sn} (h : ∀ s ∈ w, OkS s) (hl : w.length ≤ 200) : joinD (mkS [32]) (.lst (w.map fun s => .str (mkS (snT s)))) = .ok (.str (mkS (TL.joinL [32] (w.map snT)))) := by
  have := joinD_mk 32 (w.map snT) 40 (fun l hl => by
    obtain ⟨s, hs, rfl⟩ := List.mem_map.mp hl
    exact snT_len (h s hs)) (by rw [List.length_map]; omega)
  rw [List.map_map] at this
  exact this
theorem out_join {F : List (List Sn)} (h : ∀ w ∈ F, OkW w) (hl : F.length ≤ 40) : joinD (mkS [10]) (.lst (F.map fun w => .str (mkS (TL.joinL [32] (w.map snT))))) = .ok (.str (mkS (outT F))) := by
  have := joinD_mk 10 (F.map fun w => TL.joinL [32] (w.map snT)) 8200 (fun l hl => by
    obtain ⟨w, hw, rfl⟩ := List.mem_map.mp hl
    exact wayT_len (h w hw).ok (h w hw).len) (by rw [List.length_map]; omega)
  rw [List.map_map] at this
  exact this
theorem outT_len {F : List (List Sn)} (h : ∀ w ∈ F, (∀ s ∈ w, OkS s) ∧ w.length ≤ 5) (hl : F.length ≤ 3) : (outT F).length ≤ 1000 := by
  unfold outT
  have := joinL_len 10 205 (F.map fun w => TL.joinL [32] (w.map snT)) fun l hl => by
    obtain ⟨w, hw, rfl⟩ := List.mem_map.mp hl
    obtain ⟨h1, h2⟩ := h w hw
    have := joinL_len 32 40 (w.map snT) fun l hl => by
      obtain ⟨s, hs, rfl⟩ := List.mem_map.mp hl
      exact snT_len (h1 s hs)
    rw [List.length_map] at this; omega
  rw [List.length_map] at this; omega
theorem law_text_spec {F : List (List Sn)} (h : ∀ w ∈ F, OkW w) (hl : F.length ≤ 40) : m__law_text [.d (.lst ((wD F).map .lst))] = .ok (.d (.str (mkS (outT F)))) := by
  have hj := out_join h hl
  have hlen : ((wD F).map D.lst).length = F.length := by rw [List.length_map, wD_len]
  have c1 : lcD (kName 1) yesT den__law_text_e2 [some (.d (.lst ((wD F).map .lst))), none, none] ((wD F).map .lst) = .ok (F.map fun w => .str (mkS (TL.joinL [32] (w.map snT)))) := by
    generalize some (S.d (.lst ((wD F).map .lst))) = x0
    have := lc_map (k := kName 1) (el := den__law_text_e2) (ρ := [x0, none, none]) (fun w : List Sn => D.lst (w.map snD)) (fun w => .str (mkS (TL.joinL [32] (w.map snT)))) F (fun w hw => by
      have ok := h w hw
      have hj2 := way_join ok.ok ok.len
      have c2 := lc_map (k := kName 2) (el := den__law_text_e1) (ρ := [x0, some (.d (.lst (w.map snD))), none]) snD (fun s => .str (mkS (snT s))) w (fun s hs => by
        have hs := law_step_text_spec (ok.ok s hs)
        generalize snD s = sd at *
        simp (maxSteps := 2000000) (disch := omega) only [e_lend, e_lend1, e_lend2, e_lend3, e_lend4, e_lend5, e_lend6, e_oixx, e_oixx1, e_oixx2, e_oixx3, e_oixx4, e_sets, e_sets0, e_sets1, e_sets2, e_sets3, e_sets4, e_sets5, e_sets6, e_appall, e_all_0, e_all_1, e_all_2, e_lclA, e_lcl, e_klcl, e_joind, e_joins, e_revrd, e_addb, e_lstb, e_klstb, e_fld, e_kfld, e_meth, e_kmeth, e_kmethb, e_make, e_mko, e_init, e_kini, e_kinib, e_kinic, e_alld0, e_alld1, e_alld2, e_starti, e_flds2, e_kf1, e_kf2, e_seq, e_seqn, e_seqr, e_if, e_dif, e_ift, e_iff, e_ret, e_kret, e_retv, e_kretv, e_retn, e_asg, e_kasg, e_asge, e_kasge, e_drop, e_kdrop, e_next, e_exc, e_muts, e_mutb, e_mut, e_kmut, e_app, e_ext, e_ins, e_setb, e_kset, e_set, e_set0, e_nx, e_unp, e_kunp, e_par, e_kpar, e_par3, e_kpar3, e_for, e_kfor, e_while, e_try, e_tryk, e_tryx, e_appb, e_kappl, e_appl, e_app0, e_llof1, e_llof2, e_m2d, e_m2c, e_m2, e_m2a, e_c, e_v, e_kv, e_own, e_kown, e_vs, e_kvs1, e_kvs2, e_kvs3, e_kix, e_oix, e_koix1, e_koix2, e_oit, e_koit1, e_koit2, e_2b, e_2, e_k2, e_1, e_k1, e_a, e_tos, e_ktos, e_anil, e_consb, e_acons, e_scons, e_kcons, e_snil, e_tup, e_ktup, e_lst, e_klst, e_slcb, e_slca, e_slc, e_kslc, e_slc1, e_slc2, e_slc3, e_ono, e_oso, e_koso, e_and, e_andt, e_andf, e_or, e_ort, e_orf, e_not, e_knot, e_andv, e_orv, e_kandv, e_korv, e_andwt, e_andwf, e_orwt, e_orwf, e_chdt, e_chdf, e_chc, e_chb, e_ch, e_kch, e_tob, e_notd, e_knotd, e_neg, e_add, e_addt, e_adds, e_sub, e_lt, e_le, e_gt, e_ge, e_ixl, e_ixt, e_ixs, e_ixr, e_trn, e_trb, e_tri, e_trl, e_trt, e_trs, e_trr, e_lenl, e_lent, e_lens, e_lenr, e_abs, e_max, e_min, e_cat, e_list1, e_list2, e_tuple1, e_tuple2, e_isn, e_isnn, e_ns1, e_ns2, e_nns1, e_nns2, e_no1, e_no2, e_no3, e_no4, e_int1, e_int2, e_run, e_endn, e_endr, e_endx, e_start, e_w0, e_w1, e_frz, e_kfr, e_kfrb, e_name, e_namest, e_namesl, e_all0, e_all1, e_ktupt, e_ktupl, e_ktc, e_ktcons, e_ktnil, e_yes, e_scs, e_sc1, e_sc2, e_sc3, e_sc4, e_itl, e_itt, e_lca, e_lc, e_klc, e_l0, e_l1, e_kl1, e_kl2t, e_kl2f, e_kl3, e_lp0, e_lp1, e_klp, e_klpn, e_klpr, ok_bind, bind_exc, bind_stuck, fz_d, fz_l, fz_ll, oOf_some, noX_k, eqD_ii, neD_ii, eqD_in, neD_in, eqD_ss, gle, glt, mulL, mulR, divP, modP, rng1P, rng2P, at0, at1, at2, at3, at4, atm1a, atm1b, atm1c, atm1s, cut_tail, decide_true, decide_false, Bool.and_true, Bool.true_and, Bool.and_false, Bool.false_and, Bool.or_true, Bool.or_false, Bool.true_or, Bool.false_or, List.map_cons, List.map_nil, List.length_cons, List.length_nil, List.replicate, List.cons_append, List.nil_append, List.getElem?_cons_zero, List.getElem?_cons_succ, List.set_cons_zero, List.set_cons_succ, List.set_nil, Nat.reduceAdd, Nat.reduceSub, Nat.reduceLeDiff, Nat.reduceLT, guard_tt, ↓reduceIte, Bool.false_eq_true, Bool.not_true, Bool.not_false, Nat.zero_add, den__law_text_e1, hs])
      have hwl : (w.map snD).length = w.length := List.length_map _
      have := ok.len
      generalize w.map snD = wd at *
      simp (maxSteps := 2000000) (disch := omega) only [e_lend, e_lend1, e_lend2, e_lend3, e_lend4, e_lend5, e_lend6, e_oixx, e_oixx1, e_oixx2, e_oixx3, e_oixx4, e_sets, e_sets0, e_sets1, e_sets2, e_sets3, e_sets4, e_sets5, e_sets6, e_appall, e_all_0, e_all_1, e_all_2, e_lclA, e_lcl, e_klcl, e_joind, e_joins, e_revrd, e_addb, e_lstb, e_klstb, e_fld, e_kfld, e_meth, e_kmeth, e_kmethb, e_make, e_mko, e_init, e_kini, e_kinib, e_kinic, e_alld0, e_alld1, e_alld2, e_starti, e_flds2, e_kf1, e_kf2, e_seq, e_seqn, e_seqr, e_if, e_dif, e_ift, e_iff, e_ret, e_kret, e_retv, e_kretv, e_retn, e_asg, e_kasg, e_asge, e_kasge, e_drop, e_kdrop, e_next, e_exc, e_muts, e_mutb, e_mut, e_kmut, e_app, e_ext, e_ins, e_setb, e_kset, e_set, e_set0, e_nx, e_unp, e_kunp, e_par, e_kpar, e_par3, e_kpar3, e_for, e_kfor, e_while, e_try, e_tryk, e_tryx, e_appb, e_kappl, e_appl, e_app0, e_llof1, e_llof2, e_m2d, e_m2c, e_m2, e_m2a, e_c, e_v, e_kv, e_own, e_kown, e_vs, e_kvs1, e_kvs2, e_kvs3, e_kix, e_oix, e_koix1, e_koix2, e_oit, e_koit1, e_koit2, e_2b, e_2, e_k2, e_1, e_k1, e_a, e_tos, e_ktos, e_anil, e_consb, e_acons, e_scons, e_kcons, e_snil, e_tup, e_ktup, e_lst, e_klst, e_slcb, e_slca, e_slc, e_kslc, e_slc1, e_slc2, e_slc3, e_ono, e_oso, e_koso, e_and, e_andt, e_andf, e_or, e_ort, e_orf, e_not, e_knot, e_andv, e_orv, e_kandv, e_korv, e_andwt, e_andwf, e_orwt, e_orwf, e_chdt, e_chdf, e_chc, e_chb, e_ch, e_kch, e_tob, e_notd, e_knotd, e_neg, e_add, e_addt, e_adds, e_sub, e_lt, e_le, e_gt, e_ge, e_ixl, e_ixt, e_ixs, e_ixr, e_trn, e_trb, e_tri, e_trl, e_trt, e_trs, e_trr, e_lenl, e_lent, e_lens, e_lenr, e_abs, e_max, e_min, e_cat, e_list1, e_list2, e_tuple1, e_tuple2, e_isn, e_isnn, e_ns1, e_ns2, e_nns1, e_nns2, e_no1, e_no2, e_no3, e_no4, e_int1, e_int2, e_run, e_endn, e_endr, e_endx, e_start, e_w0, e_w1, e_frz, e_kfr, e_kfrb, e_name, e_namest, e_namesl, e_all0, e_all1, e_ktupt, e_ktupl, e_ktc, e_ktcons, e_ktnil, e_yes, e_scs, e_sc1, e_sc2, e_sc3, e_sc4, e_itl, e_itt, e_lca, e_lc, e_klc, e_l0, e_l1, e_kl1, e_kl2t, e_kl2f, e_kl3, e_lp0, e_lp1, e_klp, e_klpn, e_klpr, ok_bind, bind_exc, bind_stuck, fz_d, fz_l, fz_ll, oOf_some, noX_k, eqD_ii, neD_ii, eqD_in, neD_in, eqD_ss, gle, glt, mulL, mulR, divP, modP, rng1P, rng2P, at0, at1, at2, at3, at4, atm1a, atm1b, atm1c, atm1s, cut_tail, decide_true, decide_false, Bool.and_true, Bool.true_and, Bool.and_false, Bool.false_and, Bool.or_true, Bool.or_false, Bool.true_or, Bool.false_or, List.map_cons, List.map_nil, List.length_cons, List.length_nil, List.replicate, List.cons_append, List.nil_append, List.getElem?_cons_zero, List.getElem?_cons_succ, List.set_cons_zero, List.set_cons_succ, List.set_nil, Nat.reduceAdd, Nat.reduceSub, Nat.reduceLeDiff, Nat.reduceLT, guard_tt, ↓reduceIte, Bool.false_eq_true, Bool.not_true, Bool.not_false, Nat.zero_add, den__law_text_e2, c2, hwl, List.length_map, s_blank, hj2])
    rw [show (wD F).map D.lst = F.map fun w => D.lst (w.map snD) from by unfold wD; rw [List.map_map]; rfl]
    exact this
  generalize (wD F).map D.lst = xs at *
  simp (maxSteps := 2000000) (disch := omega) only [e_lend, e_lend1, e_lend2, e_lend3, e_lend4, e_lend5, e_lend6, e_oixx, e_oixx1, e_oixx2, e_oixx3, e_oixx4, e_sets, e_sets0, e_sets1, e_sets2, e_sets3, e_sets4, e_sets5, e_sets6, e_appall, e_all_0, e_all_1, e_all_2, e_lclA, e_lcl, e_klcl, e_joind, e_joins, e_revrd, e_addb, e_lstb, e_klstb, e_fld, e_kfld, e_meth, e_kmeth, e_kmethb, e_make, e_mko, e_init, e_kini, e_kinib, e_kinic, e_alld0, e_alld1, e_alld2, e_starti, e_flds2, e_kf1, e_kf2, e_seq, e_seqn, e_seqr, e_if, e_dif, e_ift, e_iff, e_ret, e_kret, e_retv, e_kretv, e_retn, e_asg, e_kasg, e_asge, e_kasge, e_drop, e_kdrop, e_next, e_exc, e_muts, e_mutb, e_mut, e_kmut, e_app, e_ext, e_ins, e_setb, e_kset, e_set, e_set0, e_nx, e_unp, e_kunp, e_par, e_kpar, e_par3, e_kpar3, e_for, e_kfor, e_while, e_try, e_tryk, e_tryx, e_appb, e_kappl, e_appl, e_app0, e_llof1, e_llof2, e_m2d, e_m2c, e_m2, e_m2a, e_c, e_v, e_kv, e_own, e_kown, e_vs, e_kvs1, e_kvs2, e_kvs3, e_kix, e_oix, e_koix1, e_koix2, e_oit, e_koit1, e_koit2, e_2b, e_2, e_k2, e_1, e_k1, e_a, e_tos, e_ktos, e_anil, e_consb, e_acons, e_scons, e_kcons, e_snil, e_tup, e_ktup, e_lst, e_klst, e_slcb, e_slca, e_slc, e_kslc, e_slc1, e_slc2, e_slc3, e_ono, e_oso, e_koso, e_and, e_andt, e_andf, e_or, e_ort, e_orf, e_not, e_knot, e_andv, e_orv, e_kandv, e_korv, e_andwt, e_andwf, e_orwt, e_orwf, e_chdt, e_chdf, e_chc, e_chb, e_ch, e_kch, e_tob, e_notd, e_knotd, e_neg, e_add, e_addt, e_adds, e_sub, e_lt, e_le, e_gt, e_ge, e_ixl, e_ixt, e_ixs, e_ixr, e_trn, e_trb, e_tri, e_trl, e_trt, e_trs, e_trr, e_lenl, e_lent, e_lens, e_lenr, e_abs, e_max, e_min, e_cat, e_list1, e_list2, e_tuple1, e_tuple2, e_isn, e_isnn, e_ns1, e_ns2, e_nns1, e_nns2, e_no1, e_no2, e_no3, e_no4, e_int1, e_int2, e_run, e_endn, e_endr, e_endx, e_start, e_w0, e_w1, e_frz, e_kfr, e_kfrb, e_name, e_namest, e_namesl, e_all0, e_all1, e_ktupt, e_ktupl, e_ktc, e_ktcons, e_ktnil, e_yes, e_scs, e_sc1, e_sc2, e_sc3, e_sc4, e_itl, e_itt, e_lca, e_lc, e_klc, e_l0, e_l1, e_kl1, e_kl2t, e_kl2f, e_kl3, e_lp0, e_lp1, e_klp, e_klpn, e_klpr, ok_bind, bind_exc, bind_stuck, fz_d, fz_l, fz_ll, oOf_some, noX_k, eqD_ii, neD_ii, eqD_in, neD_in, eqD_ss, gle, glt, mulL, mulR, divP, modP, rng1P, rng2P, at0, at1, at2, at3, at4, atm1a, atm1b, atm1c, atm1s, cut_tail, decide_true, decide_false, Bool.and_true, Bool.true_and, Bool.and_false, Bool.false_and, Bool.or_true, Bool.or_false, Bool.true_or, Bool.false_or, List.map_cons, List.map_nil, List.length_cons, List.length_nil, List.replicate, List.cons_append, List.nil_append, List.getElem?_cons_zero, List.getElem?_cons_succ, List.set_cons_zero, List.set_cons_succ, List.set_nil, Nat.reduceAdd, Nat.reduceSub, Nat.reduceLeDiff, Nat.reduceLT, guard_tt, ↓reduceIte, Bool.false_eq_true, Bool.not_true, Bool.not_false, Nat.zero_add, m__law_text, den__law_text, hlen, c1, List.length_map, s_row, hj]
theorem written_spec {F : List (List Sn)} (h : ∀ w ∈ F, OkW w) (hl : F.length ≤ 40) (hlook : m_look_outline [.d (.lst ((wD F).map .lst))] = .ok (.d .non)) : m_written [.d (.lst ((wD F).map .lst))] = .ok (.d (.str (mkS (outT F)))) := by
  have hj := out_join h hl
  have hlen : ((wD F).map D.lst).length = F.length := by rw [List.length_map, wD_len]
  have c1 : lcD (kName 1) yesT den_written_e2 [some (.d (.lst ((wD F).map .lst))), none, none] ((wD F).map .lst) = .ok (F.map fun w => .str (mkS (TL.joinL [32] (w.map snT)))) := by
    generalize some (S.d (.lst ((wD F).map .lst))) = x0
    have := lc_map (k := kName 1) (el := den_written_e2) (ρ := [x0, none, none]) (fun w : List Sn => D.lst (w.map snD)) (fun w => .str (mkS (TL.joinL [32] (w.map snT)))) F (fun w hw => by
      have ok := h w hw
      have hj2 := way_join ok.ok ok.len
      have c2 := lc_map (k := kName 2) (el := den_written_e1) (ρ := [x0, some (.d (.lst (w.map snD))), none]) snD (fun s => .str (mkS (snT s))) w (fun s hs => by
        have hs := step_text_spec (ok.ok s hs)
        generalize snD s = sd at *
        simp (maxSteps := 2000000) (disch := omega) only [e_lend, e_lend1, e_lend2, e_lend3, e_lend4, e_lend5, e_lend6, e_oixx, e_oixx1, e_oixx2, e_oixx3, e_oixx4, e_sets, e_sets0, e_sets1, e_sets2, e_sets3, e_sets4, e_sets5, e_sets6, e_appall, e_all_0, e_all_1, e_all_2, e_lclA, e_lcl, e_klcl, e_joind, e_joins, e_revrd, e_addb, e_lstb, e_klstb, e_fld, e_kfld, e_meth, e_kmeth, e_kmethb, e_make, e_mko, e_init, e_kini, e_kinib, e_kinic, e_alld0, e_alld1, e_alld2, e_starti, e_flds2, e_kf1, e_kf2, e_seq, e_seqn, e_seqr, e_if, e_dif, e_ift, e_iff, e_ret, e_kret, e_retv, e_kretv, e_retn, e_asg, e_kasg, e_asge, e_kasge, e_drop, e_kdrop, e_next, e_exc, e_muts, e_mutb, e_mut, e_kmut, e_app, e_ext, e_ins, e_setb, e_kset, e_set, e_set0, e_nx, e_unp, e_kunp, e_par, e_kpar, e_par3, e_kpar3, e_for, e_kfor, e_while, e_try, e_tryk, e_tryx, e_appb, e_kappl, e_appl, e_app0, e_llof1, e_llof2, e_m2d, e_m2c, e_m2, e_m2a, e_c, e_v, e_kv, e_own, e_kown, e_vs, e_kvs1, e_kvs2, e_kvs3, e_kix, e_oix, e_koix1, e_koix2, e_oit, e_koit1, e_koit2, e_2b, e_2, e_k2, e_1, e_k1, e_a, e_tos, e_ktos, e_anil, e_consb, e_acons, e_scons, e_kcons, e_snil, e_tup, e_ktup, e_lst, e_klst, e_slcb, e_slca, e_slc, e_kslc, e_slc1, e_slc2, e_slc3, e_ono, e_oso, e_koso, e_and, e_andt, e_andf, e_or, e_ort, e_orf, e_not, e_knot, e_andv, e_orv, e_kandv, e_korv, e_andwt, e_andwf, e_orwt, e_orwf, e_chdt, e_chdf, e_chc, e_chb, e_ch, e_kch, e_tob, e_notd, e_knotd, e_neg, e_add, e_addt, e_adds, e_sub, e_lt, e_le, e_gt, e_ge, e_ixl, e_ixt, e_ixs, e_ixr, e_trn, e_trb, e_tri, e_trl, e_trt, e_trs, e_trr, e_lenl, e_lent, e_lens, e_lenr, e_abs, e_max, e_min, e_cat, e_list1, e_list2, e_tuple1, e_tuple2, e_isn, e_isnn, e_ns1, e_ns2, e_nns1, e_nns2, e_no1, e_no2, e_no3, e_no4, e_int1, e_int2, e_run, e_endn, e_endr, e_endx, e_start, e_w0, e_w1, e_frz, e_kfr, e_kfrb, e_name, e_namest, e_namesl, e_all0, e_all1, e_ktupt, e_ktupl, e_ktc, e_ktcons, e_ktnil, e_yes, e_scs, e_sc1, e_sc2, e_sc3, e_sc4, e_itl, e_itt, e_lca, e_lc, e_klc, e_l0, e_l1, e_kl1, e_kl2t, e_kl2f, e_kl3, e_lp0, e_lp1, e_klp, e_klpn, e_klpr, ok_bind, bind_exc, bind_stuck, fz_d, fz_l, fz_ll, oOf_some, noX_k, eqD_ii, neD_ii, eqD_in, neD_in, eqD_ss, gle, glt, mulL, mulR, divP, modP, rng1P, rng2P, at0, at1, at2, at3, at4, atm1a, atm1b, atm1c, atm1s, cut_tail, decide_true, decide_false, Bool.and_true, Bool.true_and, Bool.and_false, Bool.false_and, Bool.or_true, Bool.or_false, Bool.true_or, Bool.false_or, List.map_cons, List.map_nil, List.length_cons, List.length_nil, List.replicate, List.cons_append, List.nil_append, List.getElem?_cons_zero, List.getElem?_cons_succ, List.set_cons_zero, List.set_cons_succ, List.set_nil, Nat.reduceAdd, Nat.reduceSub, Nat.reduceLeDiff, Nat.reduceLT, guard_tt, ↓reduceIte, Bool.false_eq_true, Bool.not_true, Bool.not_false, Nat.zero_add, den_written_e1, hs])
      have hwl : (w.map snD).length = w.length := List.length_map _
      have := ok.len
      generalize w.map snD = wd at *
      simp (maxSteps := 2000000) (disch := omega) only [e_lend, e_lend1, e_lend2, e_lend3, e_lend4, e_lend5, e_lend6, e_oixx, e_oixx1, e_oixx2, e_oixx3, e_oixx4, e_sets, e_sets0, e_sets1, e_sets2, e_sets3, e_sets4, e_sets5, e_sets6, e_appall, e_all_0, e_all_1, e_all_2, e_lclA, e_lcl, e_klcl, e_joind, e_joins, e_revrd, e_addb, e_lstb, e_klstb, e_fld, e_kfld, e_meth, e_kmeth, e_kmethb, e_make, e_mko, e_init, e_kini, e_kinib, e_kinic, e_alld0, e_alld1, e_alld2, e_starti, e_flds2, e_kf1, e_kf2, e_seq, e_seqn, e_seqr, e_if, e_dif, e_ift, e_iff, e_ret, e_kret, e_retv, e_kretv, e_retn, e_asg, e_kasg, e_asge, e_kasge, e_drop, e_kdrop, e_next, e_exc, e_muts, e_mutb, e_mut, e_kmut, e_app, e_ext, e_ins, e_setb, e_kset, e_set, e_set0, e_nx, e_unp, e_kunp, e_par, e_kpar, e_par3, e_kpar3, e_for, e_kfor, e_while, e_try, e_tryk, e_tryx, e_appb, e_kappl, e_appl, e_app0, e_llof1, e_llof2, e_m2d, e_m2c, e_m2, e_m2a, e_c, e_v, e_kv, e_own, e_kown, e_vs, e_kvs1, e_kvs2, e_kvs3, e_kix, e_oix, e_koix1, e_koix2, e_oit, e_koit1, e_koit2, e_2b, e_2, e_k2, e_1, e_k1, e_a, e_tos, e_ktos, e_anil, e_consb, e_acons, e_scons, e_kcons, e_snil, e_tup, e_ktup, e_lst, e_klst, e_slcb, e_slca, e_slc, e_kslc, e_slc1, e_slc2, e_slc3, e_ono, e_oso, e_koso, e_and, e_andt, e_andf, e_or, e_ort, e_orf, e_not, e_knot, e_andv, e_orv, e_kandv, e_korv, e_andwt, e_andwf, e_orwt, e_orwf, e_chdt, e_chdf, e_chc, e_chb, e_ch, e_kch, e_tob, e_notd, e_knotd, e_neg, e_add, e_addt, e_adds, e_sub, e_lt, e_le, e_gt, e_ge, e_ixl, e_ixt, e_ixs, e_ixr, e_trn, e_trb, e_tri, e_trl, e_trt, e_trs, e_trr, e_lenl, e_lent, e_lens, e_lenr, e_abs, e_max, e_min, e_cat, e_list1, e_list2, e_tuple1, e_tuple2, e_isn, e_isnn, e_ns1, e_ns2, e_nns1, e_nns2, e_no1, e_no2, e_no3, e_no4, e_int1, e_int2, e_run, e_endn, e_endr, e_endx, e_start, e_w0, e_w1, e_frz, e_kfr, e_kfrb, e_name, e_namest, e_namesl, e_all0, e_all1, e_ktupt, e_ktupl, e_ktc, e_ktcons, e_ktnil, e_yes, e_scs, e_sc1, e_sc2, e_sc3, e_sc4, e_itl, e_itt, e_lca, e_lc, e_klc, e_l0, e_l1, e_kl1, e_kl2t, e_kl2f, e_kl3, e_lp0, e_lp1, e_klp, e_klpn, e_klpr, ok_bind, bind_exc, bind_stuck, fz_d, fz_l, fz_ll, oOf_some, noX_k, eqD_ii, neD_ii, eqD_in, neD_in, eqD_ss, gle, glt, mulL, mulR, divP, modP, rng1P, rng2P, at0, at1, at2, at3, at4, atm1a, atm1b, atm1c, atm1s, cut_tail, decide_true, decide_false, Bool.and_true, Bool.true_and, Bool.and_false, Bool.false_and, Bool.or_true, Bool.or_false, Bool.true_or, Bool.false_or, List.map_cons, List.map_nil, List.length_cons, List.length_nil, List.replicate, List.cons_append, List.nil_append, List.getElem?_cons_zero, List.getElem?_cons_succ, List.set_cons_zero, List.set_cons_succ, List.set_nil, Nat.reduceAdd, Nat.reduceSub, Nat.reduceLeDiff, Nat.reduceLT, guard_tt, ↓reduceIte, Bool.false_eq_true, Bool.not_true, Bool.not_false, Nat.zero_add, den_written_e2, c2, hwl, List.length_map, s_blank, hj2])
    rw [show (wD F).map D.lst = F.map fun w => D.lst (w.map snD) from by unfold wD; rw [List.map_map]; rfl]
    exact this
  generalize (wD F).map D.lst = xs at *
  simp (maxSteps := 2000000) (disch := omega) only [e_lend, e_lend1, e_lend2, e_lend3, e_lend4, e_lend5, e_lend6, e_oixx, e_oixx1, e_oixx2, e_oixx3, e_oixx4, e_sets, e_sets0, e_sets1, e_sets2, e_sets3, e_sets4, e_sets5, e_sets6, e_appall, e_all_0, e_all_1, e_all_2, e_lclA, e_lcl, e_klcl, e_joind, e_joins, e_revrd, e_addb, e_lstb, e_klstb, e_fld, e_kfld, e_meth, e_kmeth, e_kmethb, e_make, e_mko, e_init, e_kini, e_kinib, e_kinic, e_alld0, e_alld1, e_alld2, e_starti, e_flds2, e_kf1, e_kf2, e_seq, e_seqn, e_seqr, e_if, e_dif, e_ift, e_iff, e_ret, e_kret, e_retv, e_kretv, e_retn, e_asg, e_kasg, e_asge, e_kasge, e_drop, e_kdrop, e_next, e_exc, e_muts, e_mutb, e_mut, e_kmut, e_app, e_ext, e_ins, e_setb, e_kset, e_set, e_set0, e_nx, e_unp, e_kunp, e_par, e_kpar, e_par3, e_kpar3, e_for, e_kfor, e_while, e_try, e_tryk, e_tryx, e_appb, e_kappl, e_appl, e_app0, e_llof1, e_llof2, e_m2d, e_m2c, e_m2, e_m2a, e_c, e_v, e_kv, e_own, e_kown, e_vs, e_kvs1, e_kvs2, e_kvs3, e_kix, e_oix, e_koix1, e_koix2, e_oit, e_koit1, e_koit2, e_2b, e_2, e_k2, e_1, e_k1, e_a, e_tos, e_ktos, e_anil, e_consb, e_acons, e_scons, e_kcons, e_snil, e_tup, e_ktup, e_lst, e_klst, e_slcb, e_slca, e_slc, e_kslc, e_slc1, e_slc2, e_slc3, e_ono, e_oso, e_koso, e_and, e_andt, e_andf, e_or, e_ort, e_orf, e_not, e_knot, e_andv, e_orv, e_kandv, e_korv, e_andwt, e_andwf, e_orwt, e_orwf, e_chdt, e_chdf, e_chc, e_chb, e_ch, e_kch, e_tob, e_notd, e_knotd, e_neg, e_add, e_addt, e_adds, e_sub, e_lt, e_le, e_gt, e_ge, e_ixl, e_ixt, e_ixs, e_ixr, e_trn, e_trb, e_tri, e_trl, e_trt, e_trs, e_trr, e_lenl, e_lent, e_lens, e_lenr, e_abs, e_max, e_min, e_cat, e_list1, e_list2, e_tuple1, e_tuple2, e_isn, e_isnn, e_ns1, e_ns2, e_nns1, e_nns2, e_no1, e_no2, e_no3, e_no4, e_int1, e_int2, e_run, e_endn, e_endr, e_endx, e_start, e_w0, e_w1, e_frz, e_kfr, e_kfrb, e_name, e_namest, e_namesl, e_all0, e_all1, e_ktupt, e_ktupl, e_ktc, e_ktcons, e_ktnil, e_yes, e_scs, e_sc1, e_sc2, e_sc3, e_sc4, e_itl, e_itt, e_lca, e_lc, e_klc, e_l0, e_l1, e_kl1, e_kl2t, e_kl2f, e_kl3, e_lp0, e_lp1, e_klp, e_klpn, e_klpr, ok_bind, bind_exc, bind_stuck, fz_d, fz_l, fz_ll, oOf_some, noX_k, eqD_ii, neD_ii, eqD_in, neD_in, eqD_ss, gle, glt, mulL, mulR, divP, modP, rng1P, rng2P, at0, at1, at2, at3, at4, atm1a, atm1b, atm1c, atm1s, cut_tail, decide_true, decide_false, Bool.and_true, Bool.true_and, Bool.and_false, Bool.false_and, Bool.or_true, Bool.or_false, Bool.true_or, Bool.false_or, List.map_cons, List.map_nil, List.length_cons, List.length_nil, List.replicate, List.cons_append, List.nil_append, List.getElem?_cons_zero, List.getElem?_cons_succ, List.set_cons_zero, List.set_cons_succ, List.set_nil, Nat.reduceAdd, Nat.reduceSub, Nat.reduceLeDiff, Nat.reduceLT, guard_tt, ↓reduceIte, Bool.false_eq_true, Bool.not_true, Bool.not_false, Nat.zero_add, m_written, den_written, hlook, hlen, c1, List.length_map, s_row, hj]
end G

set_option Elab.async false
set_option linter.all false
set_option maxRecDepth 100000
set_option maxHeartbeats 8000000
namespace G
open PySem L2
def stpSn : Stp → Sn
  | .to p => (76, [p.1, p.2])
  | .by c p => (81, [c.1, c.2, p.1, p.2])
def waySn (w : Way) : List Sn := (77, [w.b.1, w.b.2]) :: w.s.map stpSn
theorem stpSn_D (s : Stp) : snD (stpSn s) = stpD s := by cases s <;> rfl
theorem waySn_D (w : Way) : (waySn w).map snD = wayL w := by
  unfold waySn wayL
  rw [List.map_cons, List.map_map]
  congr 1
  exact List.map_congr_left fun s _ => stpSn_D s
theorem wD_ways (O : List Way) : (wD (O.map waySn)).map D.lst = O.map wayD := by
  unfold wD
  rw [List.map_map, List.map_map]
  refine List.map_congr_left fun w _ => ?_
  show D.lst ((waySn w).map snD) = _
  rw [waySn_D]
theorem okS_stp {s : Stp} (h : s.bd 100000) : OkS (stpSn s) ∧ (stpSn s).1 ≠ 77 := by
  cases s with
  | to p => exact ⟨⟨rfl, rfl, fun v hv => by
      have hv : v ∈ [p.1, p.2] := hv
      simp only [List.mem_cons, List.not_mem_nil, or_false] at hv
      rcases hv with rfl | rfl
      · exact h.1
      · exact h.2⟩, by show (76 : Nat) ≠ 77; decide⟩
  | «by» c p => exact ⟨⟨rfl, rfl, fun v hv => by
      have hv : v ∈ [c.1, c.2, p.1, p.2] := hv
      simp only [List.mem_cons, List.not_mem_nil, or_false] at hv
      rcases hv with rfl | rfl | rfl | rfl
      · exact h.1.1
      · exact h.1.2
      · exact h.2.1
      · exact h.2.2⟩, by show (81 : Nat) ≠ 77; decide⟩
theorem okS_at {p : Pt} (h : inP 100000 p) : OkS (77, [p.1, p.2]) := ⟨rfl, rfl, fun v hv => by
  have hv : v ∈ [p.1, p.2] := hv
  simp only [List.mem_cons, List.not_mem_nil, or_false] at hv
  rcases hv with rfl | rfl
  · exact h.1
  · exact h.2⟩
theorem okW_way {w : Way} (h : w.bd 100000) (hl : w.s.length ≤ 199) : OkW (waySn w) := by
  refine ⟨⟨_, _, rfl, rfl, fun x hx => ?_⟩, fun s hs => ?_, ?_⟩
  · obtain ⟨s, hs, rfl⟩ := List.mem_map.mp hx
    exact (okS_stp (h.2 s hs)).2
  · rcases List.mem_cons.mp hs with rfl | hs
    · exact okS_at h.1
    · obtain ⟨t, ht, rfl⟩ := List.mem_map.mp hs
      exact (okS_stp (h.2 t ht)).1
  · unfold waySn; rw [List.length_cons, List.length_map]; omega
theorem bd_up {w : Way} {m : Int} (h : w.bd m) (hm : m ≤ 100000) : w.bd 100000 := by
  have up : ∀ p : Pt, inP m p → inP 100000 p := fun p hp => by
    obtain ⟨⟨a, b⟩, c, d⟩ := hp
    exact ⟨⟨by omega, by omega⟩, by omega, by omega⟩
  refine ⟨up _ h.1, fun s hs => ?_⟩
  have := h.2 s hs
  cases s with
  | to p => exact up p this
  | «by» c p => exact ⟨up c this.1, up p this.2⟩
theorem ne_self {d : D} (h : shal 40 d = true) : neD d d = .ok (.bl false) := by
  unfold neD; rw [guard_t (show eqOk d d by unfold eqOk; rw [h]; rfl), eqv_refl]; rfl
theorem eq_self' {d : D} (h : shal 40 d = true) : eqD d d = .ok (.bl true) := by
  unfold eqD; rw [guard_t (show eqOk d d by unfold eqOk; rw [h]; rfl), eqv_refl]
theorem shalAll_of {n : Nat} : ∀ {l : List D}, (∀ d ∈ l, shal n d = true) → shalAll n l = true
  | [], _ => by unfold shalAll; rfl
  | x :: l, h => by
    unfold shalAll
    rw [h x List.mem_cons_self, shalAll_of fun d hd => h d (List.mem_cons_of_mem _ hd)]; rfl
theorem shal_sn (n : Nat) (s : Sn) : shal (n + 2) (snD s) = true := by
  unfold snD
  unfold shal
  refine shalAll_of fun d hd => ?_
  rcases List.mem_cons.mp hd with rfl | hd
  · unfold shal; rfl
  · obtain ⟨v, _, rfl⟩ := List.mem_map.mp hd
    unfold shal; rfl
theorem shal_wD (F : List (List Sn)) : shal 40 (.lst ((wD F).map .lst)) = true := by
  unfold shal
  refine shalAll_of fun d hd => ?_
  obtain ⟨l, hl, rfl⟩ := List.mem_map.mp hd
  unfold shal
  refine shalAll_of fun d hd => ?_
  obtain ⟨w, _, rfl⟩ := List.mem_map.mp hl
  obtain ⟨s, _, rfl⟩ := List.mem_map.mp hd
  exact shal_sn _ s
/-! ### the law's look at what was read -/
theorem whole_spec (v : Int) : m__law_whole [.d (.int v)] = .ok (.d (.bl true)) := by
  simp (maxSteps := 2000000) (disch := omega) only [e_lend, e_lend1, e_lend2, e_lend3, e_lend4, e_lend5, e_lend6, e_oixx, e_oixx1, e_oixx2, e_oixx3, e_oixx4, e_sets, e_sets0, e_sets1, e_sets2, e_sets3, e_sets4, e_sets5, e_sets6, e_appall, e_all_0, e_all_1, e_all_2, e_lclA, e_lcl, e_klcl, e_joind, e_joins, e_revrd, e_addb, e_lstb, e_klstb, e_fld, e_kfld, e_meth, e_kmeth, e_kmethb, e_make, e_mko, e_init, e_kini, e_kinib, e_kinic, e_alld0, e_alld1, e_alld2, e_starti, e_flds2, e_kf1, e_kf2, e_seq, e_seqn, e_seqr, e_if, e_dif, e_ift, e_iff, e_ret, e_kret, e_retv, e_kretv, e_retn, e_asg, e_kasg, e_asge, e_kasge, e_drop, e_kdrop, e_next, e_exc, e_muts, e_mutb, e_mut, e_kmut, e_app, e_ext, e_ins, e_setb, e_kset, e_set, e_set0, e_nx, e_unp, e_kunp, e_par, e_kpar, e_par3, e_kpar3, e_for, e_kfor, e_while, e_try, e_tryk, e_tryx, e_appb, e_kappl, e_appl, e_app0, e_llof1, e_llof2, e_m2d, e_m2c, e_m2, e_m2a, e_c, e_v, e_kv, e_own, e_kown, e_vs, e_kvs1, e_kvs2, e_kvs3, e_kix, e_oix, e_koix1, e_koix2, e_oit, e_koit1, e_koit2, e_2b, e_2, e_k2, e_1, e_k1, e_a, e_tos, e_ktos, e_anil, e_consb, e_acons, e_scons, e_kcons, e_snil, e_tup, e_ktup, e_lst, e_klst, e_slcb, e_slca, e_slc, e_kslc, e_slc1, e_slc2, e_slc3, e_ono, e_oso, e_koso, e_and, e_andt, e_andf, e_or, e_ort, e_orf, e_not, e_knot, e_andv, e_orv, e_kandv, e_korv, e_andwt, e_andwf, e_orwt, e_orwf, e_chdt, e_chdf, e_chc, e_chb, e_ch, e_kch, e_tob, e_notd, e_knotd, e_neg, e_add, e_addt, e_adds, e_sub, e_lt, e_le, e_gt, e_ge, e_ixl, e_ixt, e_ixs, e_ixr, e_trn, e_trb, e_tri, e_trl, e_trt, e_trs, e_trr, e_lenl, e_lent, e_lens, e_lenr, e_abs, e_max, e_min, e_cat, e_list1, e_list2, e_tuple1, e_tuple2, e_isn, e_isnn, e_ns1, e_ns2, e_nns1, e_nns2, e_no1, e_no2, e_no3, e_no4, e_int1, e_int2, e_run, e_endn, e_endr, e_endx, e_start, e_w0, e_w1, e_frz, e_kfr, e_kfrb, e_name, e_namest, e_namesl, e_all0, e_all1, e_ktupt, e_ktupl, e_ktc, e_ktcons, e_ktnil, e_yes, e_scs, e_sc1, e_sc2, e_sc3, e_sc4, e_itl, e_itt, e_lca, e_lc, e_klc, e_l0, e_l1, e_kl1, e_kl2t, e_kl2f, e_kl3, e_lp0, e_lp1, e_klp, e_klpn, e_klpr, ok_bind, bind_exc, bind_stuck, fz_d, fz_l, fz_ll, oOf_some, noX_k, eqD_ii, neD_ii, eqD_in, neD_in, eqD_ss, gle, glt, mulL, mulR, divP, modP, rng1P, rng2P, at0, at1, at2, at3, at4, atm1a, atm1b, atm1c, atm1s, cut_tail, decide_true, decide_false, Bool.and_true, Bool.true_and, Bool.and_false, Bool.false_and, Bool.or_true, Bool.or_false, Bool.true_or, Bool.false_or, List.map_cons, List.map_nil, List.length_cons, List.length_nil, List.replicate, List.cons_append, List.nil_append, List.getElem?_cons_zero, List.getElem?_cons_succ, List.set_cons_zero, List.set_cons_succ, List.set_nil, Nat.reduceAdd, Nat.reduceSub, Nat.reduceLeDiff, Nat.reduceLT, guard_tt, ↓reduceIte, Bool.false_eq_true, Bool.not_true, Bool.not_false, Nat.zero_add, m__law_whole, den__law_whole, isi_int, isi_bool]
theorem look_b1 {s : Sn} (h : OkS s) (x0 x1 x2 x3 x4 x5 : Option S) : ((kName 6 (snD s) [x0, x1, x2, x3, x4, x5, none, none]).bind fun ρ => den_law_b1 ρ) = .ok (.next [x0, x1, x2, x3, x4, x5, none, none]) := by
  have h4 := cnt_le s.1
  have hn := h.n
  obtain ⟨c, vs⟩ := s
  dsimp only at *
  have c1 := lc_map (k := kName 7) (el := den_law_e2) (ρ := [x0, x1, x2, x3, x4, x5, some (.d (snD (c, vs))), none]) D.int (fun _ => .bl true) vs (fun v _ => by simp (maxSteps := 2000000) (disch := omega) only [e_lend, e_lend1, e_lend2, e_lend3, e_lend4, e_lend5, e_lend6, e_oixx, e_oixx1, e_oixx2, e_oixx3, e_oixx4, e_sets, e_sets0, e_sets1, e_sets2, e_sets3, e_sets4, e_sets5, e_sets6, e_appall, e_all_0, e_all_1, e_all_2, e_lclA, e_lcl, e_klcl, e_joind, e_joins, e_revrd, e_addb, e_lstb, e_klstb, e_fld, e_kfld, e_meth, e_kmeth, e_kmethb, e_make, e_mko, e_init, e_kini, e_kinib, e_kinic, e_alld0, e_alld1, e_alld2, e_starti, e_flds2, e_kf1, e_kf2, e_seq, e_seqn, e_seqr, e_if, e_dif, e_ift, e_iff, e_ret, e_kret, e_retv, e_kretv, e_retn, e_asg, e_kasg, e_asge, e_kasge, e_drop, e_kdrop, e_next, e_exc, e_muts, e_mutb, e_mut, e_kmut, e_app, e_ext, e_ins, e_setb, e_kset, e_set, e_set0, e_nx, e_unp, e_kunp, e_par, e_kpar, e_par3, e_kpar3, e_for, e_kfor, e_while, e_try, e_tryk, e_tryx, e_appb, e_kappl, e_appl, e_app0, e_llof1, e_llof2, e_m2d, e_m2c, e_m2, e_m2a, e_c, e_v, e_kv, e_own, e_kown, e_vs, e_kvs1, e_kvs2, e_kvs3, e_kix, e_oix, e_koix1, e_koix2, e_oit, e_koit1, e_koit2, e_2b, e_2, e_k2, e_1, e_k1, e_a, e_tos, e_ktos, e_anil, e_consb, e_acons, e_scons, e_kcons, e_snil, e_tup, e_ktup, e_lst, e_klst, e_slcb, e_slca, e_slc, e_kslc, e_slc1, e_slc2, e_slc3, e_ono, e_oso, e_koso, e_and, e_andt, e_andf, e_or, e_ort, e_orf, e_not, e_knot, e_andv, e_orv, e_kandv, e_korv, e_andwt, e_andwf, e_orwt, e_orwf, e_chdt, e_chdf, e_chc, e_chb, e_ch, e_kch, e_tob, e_notd, e_knotd, e_neg, e_add, e_addt, e_adds, e_sub, e_lt, e_le, e_gt, e_ge, e_ixl, e_ixt, e_ixs, e_ixr, e_trn, e_trb, e_tri, e_trl, e_trt, e_trs, e_trr, e_lenl, e_lent, e_lens, e_lenr, e_abs, e_max, e_min, e_cat, e_list1, e_list2, e_tuple1, e_tuple2, e_isn, e_isnn, e_ns1, e_ns2, e_nns1, e_nns2, e_no1, e_no2, e_no3, e_no4, e_int1, e_int2, e_run, e_endn, e_endr, e_endx, e_start, e_w0, e_w1, e_frz, e_kfr, e_kfrb, e_name, e_namest, e_namesl, e_all0, e_all1, e_ktupt, e_ktupl, e_ktc, e_ktcons, e_ktnil, e_yes, e_scs, e_sc1, e_sc2, e_sc3, e_sc4, e_itl, e_itt, e_lca, e_lc, e_klc, e_l0, e_l1, e_kl1, e_kl2t, e_kl2f, e_kl3, e_lp0, e_lp1, e_klp, e_klpn, e_klpr, ok_bind, bind_exc, bind_stuck, fz_d, fz_l, fz_ll, oOf_some, noX_k, eqD_ii, neD_ii, eqD_in, neD_in, eqD_ss, gle, glt, mulL, mulR, divP, modP, rng1P, rng2P, at0, at1, at2, at3, at4, atm1a, atm1b, atm1c, atm1s, cut_tail, decide_true, decide_false, Bool.and_true, Bool.true_and, Bool.and_false, Bool.false_and, Bool.or_true, Bool.or_false, Bool.true_or, Bool.false_or, List.map_cons, List.map_nil, List.length_cons, List.length_nil, List.replicate, List.cons_append, List.nil_append, List.getElem?_cons_zero, List.getElem?_cons_succ, List.set_cons_zero, List.set_cons_succ, List.set_nil, Nat.reduceAdd, Nat.reduceSub, Nat.reduceLeDiff, Nat.reduceLT, guard_tt, ↓reduceIte, Bool.false_eq_true, Bool.not_true, Bool.not_false, Nat.zero_add, den_law_e2, whole_spec])
  have hall : allD [.lst (vs.map fun _ => .bl true)] = .ok (.bl true) := by
    rw [all_map (fun _ => true) vs]
    simp
  have hVl : (vs.map D.int).length = vs.length := List.length_map _
  unfold snD at c1 ⊢
  dsimp only at *
  generalize vs.map D.int = V at *
  simp (maxSteps := 2000000) (disch := omega) only [e_lend, e_lend1, e_lend2, e_lend3, e_lend4, e_lend5, e_lend6, e_oixx, e_oixx1, e_oixx2, e_oixx3, e_oixx4, e_sets, e_sets0, e_sets1, e_sets2, e_sets3, e_sets4, e_sets5, e_sets6, e_appall, e_all_0, e_all_1, e_all_2, e_lclA, e_lcl, e_klcl, e_joind, e_joins, e_revrd, e_addb, e_lstb, e_klstb, e_fld, e_kfld, e_meth, e_kmeth, e_kmethb, e_make, e_mko, e_init, e_kini, e_kinib, e_kinic, e_alld0, e_alld1, e_alld2, e_starti, e_flds2, e_kf1, e_kf2, e_seq, e_seqn, e_seqr, e_if, e_dif, e_ift, e_iff, e_ret, e_kret, e_retv, e_kretv, e_retn, e_asg, e_kasg, e_asge, e_kasge, e_drop, e_kdrop, e_next, e_exc, e_muts, e_mutb, e_mut, e_kmut, e_app, e_ext, e_ins, e_setb, e_kset, e_set, e_set0, e_nx, e_unp, e_kunp, e_par, e_kpar, e_par3, e_kpar3, e_for, e_kfor, e_while, e_try, e_tryk, e_tryx, e_appb, e_kappl, e_appl, e_app0, e_llof1, e_llof2, e_m2d, e_m2c, e_m2, e_m2a, e_c, e_v, e_kv, e_own, e_kown, e_vs, e_kvs1, e_kvs2, e_kvs3, e_kix, e_oix, e_koix1, e_koix2, e_oit, e_koit1, e_koit2, e_2b, e_2, e_k2, e_1, e_k1, e_a, e_tos, e_ktos, e_anil, e_consb, e_acons, e_scons, e_kcons, e_snil, e_tup, e_ktup, e_lst, e_klst, e_slcb, e_slca, e_slc, e_kslc, e_slc1, e_slc2, e_slc3, e_ono, e_oso, e_koso, e_and, e_andt, e_andf, e_or, e_ort, e_orf, e_not, e_knot, e_andv, e_orv, e_kandv, e_korv, e_andwt, e_andwf, e_orwt, e_orwf, e_chdt, e_chdf, e_chc, e_chb, e_ch, e_kch, e_tob, e_notd, e_knotd, e_neg, e_add, e_addt, e_adds, e_sub, e_lt, e_le, e_gt, e_ge, e_ixl, e_ixt, e_ixs, e_ixr, e_trn, e_trb, e_tri, e_trl, e_trt, e_trs, e_trr, e_lenl, e_lent, e_lens, e_lenr, e_abs, e_max, e_min, e_cat, e_list1, e_list2, e_tuple1, e_tuple2, e_isn, e_isnn, e_ns1, e_ns2, e_nns1, e_nns2, e_no1, e_no2, e_no3, e_no4, e_int1, e_int2, e_run, e_endn, e_endr, e_endx, e_start, e_w0, e_w1, e_frz, e_kfr, e_kfrb, e_name, e_namest, e_namesl, e_all0, e_all1, e_ktupt, e_ktupl, e_ktc, e_ktcons, e_ktnil, e_yes, e_scs, e_sc1, e_sc2, e_sc3, e_sc4, e_itl, e_itt, e_lca, e_lc, e_klc, e_l0, e_l1, e_kl1, e_kl2t, e_kl2f, e_kl3, e_lp0, e_lp1, e_klp, e_klpn, e_klpr, ok_bind, bind_exc, bind_stuck, fz_d, fz_l, fz_ll, oOf_some, noX_k, eqD_ii, neD_ii, eqD_in, neD_in, eqD_ss, gle, glt, mulL, mulR, divP, modP, rng1P, rng2P, at0, at1, at2, at3, at4, atm1a, atm1b, atm1c, atm1s, cut_tail, decide_true, decide_false, Bool.and_true, Bool.true_and, Bool.and_false, Bool.false_and, Bool.or_true, Bool.or_false, Bool.true_or, Bool.false_or, List.map_cons, List.map_nil, List.length_cons, List.length_nil, List.replicate, List.cons_append, List.nil_append, List.getElem?_cons_zero, List.getElem?_cons_succ, List.set_cons_zero, List.set_cons_succ, List.set_nil, Nat.reduceAdd, Nat.reduceSub, Nat.reduceLeDiff, Nat.reduceLT, guard_tt, ↓reduceIte, Bool.false_eq_true, Bool.not_true, Bool.not_false, Nat.zero_add, den_law_b1, isi_tup, hVl, c1, hall]
theorem look_b2 {w : List Sn} (h : OkW w) (x0 x1 x2 x4 x5 : Option S) : ((kName 3 (.lst (w.map snD)) [x0, x1, x2, none, x4, x5, none, none]).bind fun ρ => den_law_b2 ρ) = .ok (.next [x0, x1, x2, none, x4, x5, none, none]) := by
  have lp := loop_map (k := kName 6) (f := den_law_b1) (fun _ : Unit => [x0, x1, x2, some (.d (.lst (w.map snD))), x4, x5, none, none]) snD (fun a _ => a) (fun _ => True) w (fun a s hs _ => ⟨trivial, look_b1 (h.ok s hs) x0 x1 x2 _ x4 x5⟩) () trivial
  have lp := lp.1
  generalize w.map snD = wd at *
  simp (maxSteps := 2000000) (disch := omega) only [e_lend, e_lend1, e_lend2, e_lend3, e_lend4, e_lend5, e_lend6, e_oixx, e_oixx1, e_oixx2, e_oixx3, e_oixx4, e_sets, e_sets0, e_sets1, e_sets2, e_sets3, e_sets4, e_sets5, e_sets6, e_appall, e_all_0, e_all_1, e_all_2, e_lclA, e_lcl, e_klcl, e_joind, e_joins, e_revrd, e_addb, e_lstb, e_klstb, e_fld, e_kfld, e_meth, e_kmeth, e_kmethb, e_make, e_mko, e_init, e_kini, e_kinib, e_kinic, e_alld0, e_alld1, e_alld2, e_starti, e_flds2, e_kf1, e_kf2, e_seq, e_seqn, e_seqr, e_if, e_dif, e_ift, e_iff, e_ret, e_kret, e_retv, e_kretv, e_retn, e_asg, e_kasg, e_asge, e_kasge, e_drop, e_kdrop, e_next, e_exc, e_muts, e_mutb, e_mut, e_kmut, e_app, e_ext, e_ins, e_setb, e_kset, e_set, e_set0, e_nx, e_unp, e_kunp, e_par, e_kpar, e_par3, e_kpar3, e_for, e_kfor, e_while, e_try, e_tryk, e_tryx, e_appb, e_kappl, e_appl, e_app0, e_llof1, e_llof2, e_m2d, e_m2c, e_m2, e_m2a, e_c, e_v, e_kv, e_own, e_kown, e_vs, e_kvs1, e_kvs2, e_kvs3, e_kix, e_oix, e_koix1, e_koix2, e_oit, e_koit1, e_koit2, e_2b, e_2, e_k2, e_1, e_k1, e_a, e_tos, e_ktos, e_anil, e_consb, e_acons, e_scons, e_kcons, e_snil, e_tup, e_ktup, e_lst, e_klst, e_slcb, e_slca, e_slc, e_kslc, e_slc1, e_slc2, e_slc3, e_ono, e_oso, e_koso, e_and, e_andt, e_andf, e_or, e_ort, e_orf, e_not, e_knot, e_andv, e_orv, e_kandv, e_korv, e_andwt, e_andwf, e_orwt, e_orwf, e_chdt, e_chdf, e_chc, e_chb, e_ch, e_kch, e_tob, e_notd, e_knotd, e_neg, e_add, e_addt, e_adds, e_sub, e_lt, e_le, e_gt, e_ge, e_ixl, e_ixt, e_ixs, e_ixr, e_trn, e_trb, e_tri, e_trl, e_trt, e_trs, e_trr, e_lenl, e_lent, e_lens, e_lenr, e_abs, e_max, e_min, e_cat, e_list1, e_list2, e_tuple1, e_tuple2, e_isn, e_isnn, e_ns1, e_ns2, e_nns1, e_nns2, e_no1, e_no2, e_no3, e_no4, e_int1, e_int2, e_run, e_endn, e_endr, e_endx, e_start, e_w0, e_w1, e_frz, e_kfr, e_kfrb, e_name, e_namest, e_namesl, e_all0, e_all1, e_ktupt, e_ktupl, e_ktc, e_ktcons, e_ktnil, e_yes, e_scs, e_sc1, e_sc2, e_sc3, e_sc4, e_itl, e_itt, e_lca, e_lc, e_klc, e_l0, e_l1, e_kl1, e_kl2t, e_kl2f, e_kl3, e_lp0, e_lp1, e_klp, e_klpn, e_klpr, ok_bind, bind_exc, bind_stuck, fz_d, fz_l, fz_ll, oOf_some, noX_k, eqD_ii, neD_ii, eqD_in, neD_in, eqD_ss, gle, glt, mulL, mulR, divP, modP, rng1P, rng2P, at0, at1, at2, at3, at4, atm1a, atm1b, atm1c, atm1s, cut_tail, decide_true, decide_false, Bool.and_true, Bool.true_and, Bool.and_false, Bool.false_and, Bool.or_true, Bool.or_false, Bool.true_or, Bool.false_or, List.map_cons, List.map_nil, List.length_cons, List.length_nil, List.replicate, List.cons_append, List.nil_append, List.getElem?_cons_zero, List.getElem?_cons_succ, List.set_cons_zero, List.set_cons_succ, List.set_nil, Nat.reduceAdd, Nat.reduceSub, Nat.reduceLeDiff, Nat.reduceLT, guard_tt, ↓reduceIte, Bool.false_eq_true, Bool.not_true, Bool.not_false, Nat.zero_add, den_law_b2, lp]
theorem pure_law (ns : List Int) (h : ns.length ≤ 63) : m_law [.d (.scr ns)] = .ok (.d (.bl true)) := by
  obtain ⟨most, hm1, hm2, hpick⟩ : ∃ most : Int, 5 ≤ most ∧ most ≤ 100000 ∧ atI [D.int 50, D.int 100000] (mixF ns 80 % 2) = some (.int most) := by
    have : mixF ns 80 % 2 = 0 ∨ mixF ns 80 % 2 = 1 := by omega
    rcases this with e | e
    · exact ⟨50, by decide, by decide, by rw [e]; rfl⟩
    · exact ⟨100000, by decide, by decide, by rw [e]; rfl⟩
  obtain ⟨O, hO, hb, ho⟩ := law_outline_spec ns 0 most hm1
  have hb' : ∀ w ∈ O, w.bd 100000 ∧ w.s.length ≤ 199 := fun w hw => ⟨bd_up (hb w hw).1 hm2, by have := (hb w hw).2; omega⟩
  have hlook := look_outline_spec O hb' (by omega)
  have hW : ∀ w ∈ O.map waySn, OkW w := fun w hw => by
    obtain ⟨v, hv, rfl⟩ := List.mem_map.mp hw
    exact okW_way (hb' v hv).1 (hb' v hv).2
  have hFl : (O.map waySn).length ≤ 3 := by rw [List.length_map]; exact hO
  have hT : (outT (O.map waySn)).length ≤ 1000 := outT_len (fun w hw => by
    refine ⟨(hW w hw).ok, ?_⟩
    obtain ⟨v, hv, rfl⟩ := List.mem_map.mp hw
    unfold waySn
    rw [List.length_cons, List.length_map]
    have := (hb v hv).2; omega) hFl
  have e0 := wD_ways O
  rw [← e0] at ho hlook
  generalize O.map waySn = F at *
  have ht := law_text_spec hW (by omega)
  have hw := written_spec hW (by omega) hlook
  have hrd := (read_spec (outT F) (by omega)).1 F (rdA_out F hW (by omega) _ (Nat.lt_succ_self _))
  have hsh := shal_wD F
  have hlen : ((wD F).map D.lst).length = F.length := by rw [List.length_map, wD_len]
  -- the copies
  have c1 : ∀ x0 x2 : Option S, lcD (kName 3) yesT den_law_e1 [x0, some (.d (.lst ((wD F).map .lst))), x2, none, none, none, none, none] ((wD F).map .lst) = .ok ((wD F).map .lst) := fun x0 x2 => by
    generalize some (S.d (.lst ((wD F).map .lst))) = x1
    refine lc_map (k := kName 3) (el := den_law_e1) (ρ := [x0, x1, x2, none, none, none, none, none]) D.lst D.lst (wD F) (fun xs hx => ?_)
    obtain ⟨w, hw', rfl⟩ := List.mem_map.mp hx
    have : (w.map snD).length ≤ 200 := by rw [List.length_map]; exact (hW w hw').len
    generalize w.map snD = wd at *
    simp (maxSteps := 2000000) (disch := omega) only [e_lend, e_lend1, e_lend2, e_lend3, e_lend4, e_lend5, e_lend6, e_oixx, e_oixx1, e_oixx2, e_oixx3, e_oixx4, e_sets, e_sets0, e_sets1, e_sets2, e_sets3, e_sets4, e_sets5, e_sets6, e_appall, e_all_0, e_all_1, e_all_2, e_lclA, e_lcl, e_klcl, e_joind, e_joins, e_revrd, e_addb, e_lstb, e_klstb, e_fld, e_kfld, e_meth, e_kmeth, e_kmethb, e_make, e_mko, e_init, e_kini, e_kinib, e_kinic, e_alld0, e_alld1, e_alld2, e_starti, e_flds2, e_kf1, e_kf2, e_seq, e_seqn, e_seqr, e_if, e_dif, e_ift, e_iff, e_ret, e_kret, e_retv, e_kretv, e_retn, e_asg, e_kasg, e_asge, e_kasge, e_drop, e_kdrop, e_next, e_exc, e_muts, e_mutb, e_mut, e_kmut, e_app, e_ext, e_ins, e_setb, e_kset, e_set, e_set0, e_nx, e_unp, e_kunp, e_par, e_kpar, e_par3, e_kpar3, e_for, e_kfor, e_while, e_try, e_tryk, e_tryx, e_appb, e_kappl, e_appl, e_app0, e_llof1, e_llof2, e_m2d, e_m2c, e_m2, e_m2a, e_c, e_v, e_kv, e_own, e_kown, e_vs, e_kvs1, e_kvs2, e_kvs3, e_kix, e_oix, e_koix1, e_koix2, e_oit, e_koit1, e_koit2, e_2b, e_2, e_k2, e_1, e_k1, e_a, e_tos, e_ktos, e_anil, e_consb, e_acons, e_scons, e_kcons, e_snil, e_tup, e_ktup, e_lst, e_klst, e_slcb, e_slca, e_slc, e_kslc, e_slc1, e_slc2, e_slc3, e_ono, e_oso, e_koso, e_and, e_andt, e_andf, e_or, e_ort, e_orf, e_not, e_knot, e_andv, e_orv, e_kandv, e_korv, e_andwt, e_andwf, e_orwt, e_orwf, e_chdt, e_chdf, e_chc, e_chb, e_ch, e_kch, e_tob, e_notd, e_knotd, e_neg, e_add, e_addt, e_adds, e_sub, e_lt, e_le, e_gt, e_ge, e_ixl, e_ixt, e_ixs, e_ixr, e_trn, e_trb, e_tri, e_trl, e_trt, e_trs, e_trr, e_lenl, e_lent, e_lens, e_lenr, e_abs, e_max, e_min, e_cat, e_list1, e_list2, e_tuple1, e_tuple2, e_isn, e_isnn, e_ns1, e_ns2, e_nns1, e_nns2, e_no1, e_no2, e_no3, e_no4, e_int1, e_int2, e_run, e_endn, e_endr, e_endx, e_start, e_w0, e_w1, e_frz, e_kfr, e_kfrb, e_name, e_namest, e_namesl, e_all0, e_all1, e_ktupt, e_ktupl, e_ktc, e_ktcons, e_ktnil, e_yes, e_scs, e_sc1, e_sc2, e_sc3, e_sc4, e_itl, e_itt, e_lca, e_lc, e_klc, e_l0, e_l1, e_kl1, e_kl2t, e_kl2f, e_kl3, e_lp0, e_lp1, e_klp, e_klpn, e_klpr, ok_bind, bind_exc, bind_stuck, fz_d, fz_l, fz_ll, oOf_some, noX_k, eqD_ii, neD_ii, eqD_in, neD_in, eqD_ss, gle, glt, mulL, mulR, divP, modP, rng1P, rng2P, at0, at1, at2, at3, at4, atm1a, atm1b, atm1c, atm1s, cut_tail, decide_true, decide_false, Bool.and_true, Bool.true_and, Bool.and_false, Bool.false_and, Bool.or_true, Bool.or_false, Bool.true_or, Bool.false_or, List.map_cons, List.map_nil, List.length_cons, List.length_nil, List.replicate, List.cons_append, List.nil_append, List.getElem?_cons_zero, List.getElem?_cons_succ, List.set_cons_zero, List.set_cons_succ, List.set_nil, Nat.reduceAdd, Nat.reduceSub, Nat.reduceLeDiff, Nat.reduceLT, guard_tt, ↓reduceIte, Bool.false_eq_true, Bool.not_true, Bool.not_false, Nat.zero_add, den_law_e1]
  -- the loop over what was read
  have lp : ∀ x0 x1 x2 x4 x5 : Option S, loopD (kName 3) den_law_b2 ((wD F).map .lst) [x0, x1, x2, none, x4, x5, none, none] = .ok (.next [x0, x1, x2, none, x4, x5, none, none]) := fun x0 x1 x2 x4 x5 => by
    have lp := loop_map (k := kName 3) (f := den_law_b2) (fun _ : Unit => [x0, x1, x2, none, x4, x5, none, none]) (fun w : List Sn => D.lst (w.map snD)) (fun a _ => a) (fun _ => True) F (fun a w hw _ => ⟨trivial, look_b2 (hW w hw) x0 x1 x2 x4 x5⟩) () trivial
    rw [show (wD F).map D.lst = F.map fun w => D.lst (w.map snD) from by unfold wD; rw [List.map_map]; rfl]
    exact lp.1
  have hth : ∀ x0 x1 x2 x4 : Option S, thawE [x0, x1, x2, none, x4, some (fS F), none, none] 5 = [x0, x1, x2, none, x4, some (.l ((wD F).map .lst)), none, none] := fun x0 x1 x2 x4 => by cases F <;> rfl
  have hfz := fS_fz F
  generalize hfs : fS F = fs at *
  generalize (wD F).map D.lst = xs at *
  have hne := ne_self hsh
  have heq := eq_self' hsh
  have htx : neD (.str (mkS (outT F))) (.str (mkS (outT F))) = .ok (.bl false) := ne_self (by unfold shal; rfl)
  generalize mkS (outT F) = tx at *
  have x0 : m_law [.d (.scr ns)] = endD (den_law_t1 [some (.d (.scr ns)), some (.d (.lst xs)), none, none, none, none, none, none]) := by
    simp (maxSteps := 2000000) (disch := omega) only [e_lend, e_lend1, e_lend2, e_lend3, e_lend4, e_lend5, e_lend6, e_oixx, e_oixx1, e_oixx2, e_oixx3, e_oixx4, e_sets, e_sets0, e_sets1, e_sets2, e_sets3, e_sets4, e_sets5, e_sets6, e_appall, e_all_0, e_all_1, e_all_2, e_lclA, e_lcl, e_klcl, e_joind, e_joins, e_revrd, e_addb, e_lstb, e_klstb, e_fld, e_kfld, e_meth, e_kmeth, e_kmethb, e_make, e_mko, e_init, e_kini, e_kinib, e_kinic, e_alld0, e_alld1, e_alld2, e_starti, e_flds2, e_kf1, e_kf2, e_seq, e_seqn, e_seqr, e_if, e_dif, e_ift, e_iff, e_ret, e_kret, e_retv, e_kretv, e_retn, e_asg, e_kasg, e_asge, e_kasge, e_drop, e_kdrop, e_next, e_exc, e_muts, e_mutb, e_mut, e_kmut, e_app, e_ext, e_ins, e_setb, e_kset, e_set, e_set0, e_nx, e_unp, e_kunp, e_par, e_kpar, e_par3, e_kpar3, e_for, e_kfor, e_while, e_try, e_tryk, e_tryx, e_appb, e_kappl, e_appl, e_app0, e_llof1, e_llof2, e_m2d, e_m2c, e_m2, e_m2a, e_c, e_v, e_kv, e_own, e_kown, e_vs, e_kvs1, e_kvs2, e_kvs3, e_kix, e_oix, e_koix1, e_koix2, e_oit, e_koit1, e_koit2, e_2b, e_2, e_k2, e_1, e_k1, e_a, e_tos, e_ktos, e_anil, e_consb, e_acons, e_scons, e_kcons, e_snil, e_tup, e_ktup, e_lst, e_klst, e_slcb, e_slca, e_slc, e_kslc, e_slc1, e_slc2, e_slc3, e_ono, e_oso, e_koso, e_and, e_andt, e_andf, e_or, e_ort, e_orf, e_not, e_knot, e_andv, e_orv, e_kandv, e_korv, e_andwt, e_andwf, e_orwt, e_orwf, e_chdt, e_chdf, e_chc, e_chb, e_ch, e_kch, e_tob, e_notd, e_knotd, e_neg, e_add, e_addt, e_adds, e_sub, e_lt, e_le, e_gt, e_ge, e_ixl, e_ixt, e_ixs, e_ixr, e_trn, e_trb, e_tri, e_trl, e_trt, e_trs, e_trr, e_lenl, e_lent, e_lens, e_lenr, e_abs, e_max, e_min, e_cat, e_list1, e_list2, e_tuple1, e_tuple2, e_isn, e_isnn, e_ns1, e_ns2, e_nns1, e_nns2, e_no1, e_no2, e_no3, e_no4, e_int1, e_int2, e_run, e_endn, e_endr, e_endx, e_start, e_w0, e_w1, e_frz, e_kfr, e_kfrb, e_name, e_namest, e_namesl, e_all0, e_all1, e_ktupt, e_ktupl, e_ktc, e_ktcons, e_ktnil, e_yes, e_scs, e_sc1, e_sc2, e_sc3, e_sc4, e_itl, e_itt, e_lca, e_lc, e_klc, e_l0, e_l1, e_kl1, e_kl2t, e_kl2f, e_kl3, e_lp0, e_lp1, e_klp, e_klpn, e_klpr, ok_bind, bind_exc, bind_stuck, fz_d, fz_l, fz_ll, oOf_some, noX_k, eqD_ii, neD_ii, eqD_in, neD_in, eqD_ss, gle, glt, mulL, mulR, divP, modP, rng1P, rng2P, at0, at1, at2, at3, at4, atm1a, atm1b, atm1c, atm1s, cut_tail, decide_true, decide_false, Bool.and_true, Bool.true_and, Bool.and_false, Bool.false_and, Bool.or_true, Bool.or_false, Bool.true_or, Bool.false_or, List.map_cons, List.map_nil, List.length_cons, List.length_nil, List.replicate, List.cons_append, List.nil_append, List.getElem?_cons_zero, List.getElem?_cons_succ, List.set_cons_zero, List.set_cons_succ, List.set_nil, Nat.reduceAdd, Nat.reduceSub, Nat.reduceLeDiff, Nat.reduceLT, guard_tt, ↓reduceIte, Bool.false_eq_true, Bool.not_true, Bool.not_false, Nat.zero_add, m_law, den_law, mix_spec, hpick, ho]
  rw [x0]
  have x1 : den_law_t1 [some (.d (.scr ns)), some (.d (.lst xs)), none, none, none, none, none, none] = den_law_t4 [some (.d (.scr ns)), some (.d (.lst xs)), some (.d (.str tx)), none, some (.d (.lst xs)), none, none, none] := by
    simp (maxSteps := 2000000) (disch := omega) only [e_lend, e_lend1, e_lend2, e_lend3, e_lend4, e_lend5, e_lend6, e_oixx, e_oixx1, e_oixx2, e_oixx3, e_oixx4, e_sets, e_sets0, e_sets1, e_sets2, e_sets3, e_sets4, e_sets5, e_sets6, e_appall, e_all_0, e_all_1, e_all_2, e_lclA, e_lcl, e_klcl, e_joind, e_joins, e_revrd, e_addb, e_lstb, e_klstb, e_fld, e_kfld, e_meth, e_kmeth, e_kmethb, e_make, e_mko, e_init, e_kini, e_kinib, e_kinic, e_alld0, e_alld1, e_alld2, e_starti, e_flds2, e_kf1, e_kf2, e_seq, e_seqn, e_seqr, e_if, e_dif, e_ift, e_iff, e_ret, e_kret, e_retv, e_kretv, e_retn, e_asg, e_kasg, e_asge, e_kasge, e_drop, e_kdrop, e_next, e_exc, e_muts, e_mutb, e_mut, e_kmut, e_app, e_ext, e_ins, e_setb, e_kset, e_set, e_set0, e_nx, e_unp, e_kunp, e_par, e_kpar, e_par3, e_kpar3, e_for, e_kfor, e_while, e_try, e_tryk, e_tryx, e_appb, e_kappl, e_appl, e_app0, e_llof1, e_llof2, e_m2d, e_m2c, e_m2, e_m2a, e_c, e_v, e_kv, e_own, e_kown, e_vs, e_kvs1, e_kvs2, e_kvs3, e_kix, e_oix, e_koix1, e_koix2, e_oit, e_koit1, e_koit2, e_2b, e_2, e_k2, e_1, e_k1, e_a, e_tos, e_ktos, e_anil, e_consb, e_acons, e_scons, e_kcons, e_snil, e_tup, e_ktup, e_lst, e_klst, e_slcb, e_slca, e_slc, e_kslc, e_slc1, e_slc2, e_slc3, e_ono, e_oso, e_koso, e_and, e_andt, e_andf, e_or, e_ort, e_orf, e_not, e_knot, e_andv, e_orv, e_kandv, e_korv, e_andwt, e_andwf, e_orwt, e_orwf, e_chdt, e_chdf, e_chc, e_chb, e_ch, e_kch, e_tob, e_notd, e_knotd, e_neg, e_add, e_addt, e_adds, e_sub, e_lt, e_le, e_gt, e_ge, e_ixl, e_ixt, e_ixs, e_ixr, e_trn, e_trb, e_tri, e_trl, e_trt, e_trs, e_trr, e_lenl, e_lent, e_lens, e_lenr, e_abs, e_max, e_min, e_cat, e_list1, e_list2, e_tuple1, e_tuple2, e_isn, e_isnn, e_ns1, e_ns2, e_nns1, e_nns2, e_no1, e_no2, e_no3, e_no4, e_int1, e_int2, e_run, e_endn, e_endr, e_endx, e_start, e_w0, e_w1, e_frz, e_kfr, e_kfrb, e_name, e_namest, e_namesl, e_all0, e_all1, e_ktupt, e_ktupl, e_ktc, e_ktcons, e_ktnil, e_yes, e_scs, e_sc1, e_sc2, e_sc3, e_sc4, e_itl, e_itt, e_lca, e_lc, e_klc, e_l0, e_l1, e_kl1, e_kl2t, e_kl2f, e_kl3, e_lp0, e_lp1, e_klp, e_klpn, e_klpr, ok_bind, bind_exc, bind_stuck, fz_d, fz_l, fz_ll, oOf_some, noX_k, eqD_ii, neD_ii, eqD_in, neD_in, eqD_ss, gle, glt, mulL, mulR, divP, modP, rng1P, rng2P, at0, at1, at2, at3, at4, atm1a, atm1b, atm1c, atm1s, cut_tail, decide_true, decide_false, Bool.and_true, Bool.true_and, Bool.and_false, Bool.false_and, Bool.or_true, Bool.or_false, Bool.true_or, Bool.false_or, List.map_cons, List.map_nil, List.length_cons, List.length_nil, List.replicate, List.cons_append, List.nil_append, List.getElem?_cons_zero, List.getElem?_cons_succ, List.set_cons_zero, List.set_cons_succ, List.set_nil, Nat.reduceAdd, Nat.reduceSub, Nat.reduceLeDiff, Nat.reduceLT, guard_tt, ↓reduceIte, Bool.false_eq_true, Bool.not_true, Bool.not_false, Nat.zero_add, den_law_t1, den_law_s1, ht, den_law_t2, den_law_s2, hlen, c1, den_law_t3, den_law_s3, hw, htx, hne]
  rw [x1]
  have f5 : ∀ ρ : Env, ρ[5]? = some (some (.l xs)) → sForO 5 (kName 3) den_law_b2 ρ = (loopD (kName 3) den_law_b2 xs (ρ.set 5 none)).bind (kForO 5 xs) := fun ρ e => by
    unfold sForO; rw [e]; rfl
  have kf : ∀ ρ : Env, kForO 5 xs (.next ρ) = .ok (.next (ρ.set 5 (some (.l xs)))) := fun _ => (rfl)
  have x2 : den_law_t4 [some (.d (.scr ns)), some (.d (.lst xs)), some (.d (.str tx)), none, some (.d (.lst xs)), none, none, none] = den_law_t5 [some (.d (.scr ns)), some (.d (.lst xs)), some (.d (.str tx)), none, some (.d (.lst xs)), some (.l xs), none, none] := by
    simp (maxSteps := 2000000) (disch := omega) only [e_lend, e_lend1, e_lend2, e_lend3, e_lend4, e_lend5, e_lend6, e_oixx, e_oixx1, e_oixx2, e_oixx3, e_oixx4, e_sets, e_sets0, e_sets1, e_sets2, e_sets3, e_sets4, e_sets5, e_sets6, e_appall, e_all_0, e_all_1, e_all_2, e_lclA, e_lcl, e_klcl, e_joind, e_joins, e_revrd, e_addb, e_lstb, e_klstb, e_fld, e_kfld, e_meth, e_kmeth, e_kmethb, e_make, e_mko, e_init, e_kini, e_kinib, e_kinic, e_alld0, e_alld1, e_alld2, e_starti, e_flds2, e_kf1, e_kf2, e_seq, e_seqn, e_seqr, e_if, e_dif, e_ift, e_iff, e_ret, e_kret, e_retv, e_kretv, e_retn, e_asg, e_kasg, e_asge, e_kasge, e_drop, e_kdrop, e_next, e_exc, e_muts, e_mutb, e_mut, e_kmut, e_app, e_ext, e_ins, e_setb, e_kset, e_set, e_set0, e_nx, e_unp, e_kunp, e_par, e_kpar, e_par3, e_kpar3, e_for, e_kfor, e_while, e_try, e_tryk, e_tryx, e_appb, e_kappl, e_appl, e_app0, e_llof1, e_llof2, e_m2d, e_m2c, e_m2, e_m2a, e_c, e_v, e_kv, e_own, e_kown, e_vs, e_kvs1, e_kvs2, e_kvs3, e_kix, e_oix, e_koix1, e_koix2, e_oit, e_koit1, e_koit2, e_2b, e_2, e_k2, e_1, e_k1, e_a, e_tos, e_ktos, e_anil, e_consb, e_acons, e_scons, e_kcons, e_snil, e_tup, e_ktup, e_lst, e_klst, e_slcb, e_slca, e_slc, e_kslc, e_slc1, e_slc2, e_slc3, e_ono, e_oso, e_koso, e_and, e_andt, e_andf, e_or, e_ort, e_orf, e_not, e_knot, e_andv, e_orv, e_kandv, e_korv, e_andwt, e_andwf, e_orwt, e_orwf, e_chdt, e_chdf, e_chc, e_chb, e_ch, e_kch, e_tob, e_notd, e_knotd, e_neg, e_add, e_addt, e_adds, e_sub, e_lt, e_le, e_gt, e_ge, e_ixl, e_ixt, e_ixs, e_ixr, e_trn, e_trb, e_tri, e_trl, e_trt, e_trs, e_trr, e_lenl, e_lent, e_lens, e_lenr, e_abs, e_max, e_min, e_cat, e_list1, e_list2, e_tuple1, e_tuple2, e_isn, e_isnn, e_ns1, e_ns2, e_nns1, e_nns2, e_no1, e_no2, e_no3, e_no4, e_int1, e_int2, e_run, e_endn, e_endr, e_endx, e_start, e_w0, e_w1, e_frz, e_kfr, e_kfrb, e_name, e_namest, e_namesl, e_all0, e_all1, e_ktupt, e_ktupl, e_ktc, e_ktcons, e_ktnil, e_yes, e_scs, e_sc1, e_sc2, e_sc3, e_sc4, e_itl, e_itt, e_lca, e_lc, e_klc, e_l0, e_l1, e_kl1, e_kl2t, e_kl2f, e_kl3, e_lp0, e_lp1, e_klp, e_klpn, e_klpr, ok_bind, bind_exc, bind_stuck, fz_d, fz_l, fz_ll, oOf_some, noX_k, eqD_ii, neD_ii, eqD_in, neD_in, eqD_ss, gle, glt, mulL, mulR, divP, modP, rng1P, rng2P, at0, at1, at2, at3, at4, atm1a, atm1b, atm1c, atm1s, cut_tail, decide_true, decide_false, Bool.and_true, Bool.true_and, Bool.and_false, Bool.false_and, Bool.or_true, Bool.or_false, Bool.true_or, Bool.false_or, List.map_cons, List.map_nil, List.length_cons, List.length_nil, List.replicate, List.cons_append, List.nil_append, List.getElem?_cons_zero, List.getElem?_cons_succ, List.set_cons_zero, List.set_cons_succ, List.set_nil, Nat.reduceAdd, Nat.reduceSub, Nat.reduceLeDiff, Nat.reduceLT, guard_tt, ↓reduceIte, Bool.false_eq_true, Bool.not_true, Bool.not_false, Nat.zero_add, den_law_t4, den_law_s4, hrd, hth]
  rw [x2]
  have hlx : xs.length < 1000 := by omega
  have g5 : den_law_s5 [some (.d (.scr ns)), some (.d (.lst xs)), some (.d (.str tx)), none, some (.d (.lst xs)), some (.l xs), none, none] = .ok (.next [some (.d (.scr ns)), some (.d (.lst xs)), some (.d (.str tx)), none, some (.d (.lst xs)), some (.l xs), none, none]) := by
    unfold den_law_s5
    rw [f5 _ rfl]
    show (loopD (kName 3) den_law_b2 xs [some (.d (.scr ns)), some (.d (.lst xs)), some (.d (.str tx)), none, some (.d (.lst xs)), none, none, none]).bind _ = _
    rw [lp]; rfl
  simp (maxSteps := 2000000) (disch := omega) only [e_lend, e_lend1, e_lend2, e_lend3, e_lend4, e_lend5, e_lend6, e_oixx, e_oixx1, e_oixx2, e_oixx3, e_oixx4, e_sets, e_sets0, e_sets1, e_sets2, e_sets3, e_sets4, e_sets5, e_sets6, e_appall, e_all_0, e_all_1, e_all_2, e_lclA, e_lcl, e_klcl, e_joind, e_joins, e_revrd, e_addb, e_lstb, e_klstb, e_fld, e_kfld, e_meth, e_kmeth, e_kmethb, e_make, e_mko, e_init, e_kini, e_kinib, e_kinic, e_alld0, e_alld1, e_alld2, e_starti, e_flds2, e_kf1, e_kf2, e_seq, e_seqn, e_seqr, e_if, e_dif, e_ift, e_iff, e_ret, e_kret, e_retv, e_kretv, e_retn, e_asg, e_kasg, e_asge, e_kasge, e_drop, e_kdrop, e_next, e_exc, e_muts, e_mutb, e_mut, e_kmut, e_app, e_ext, e_ins, e_setb, e_kset, e_set, e_set0, e_nx, e_unp, e_kunp, e_par, e_kpar, e_par3, e_kpar3, e_for, e_kfor, e_while, e_try, e_tryk, e_tryx, e_appb, e_kappl, e_appl, e_app0, e_llof1, e_llof2, e_m2d, e_m2c, e_m2, e_m2a, e_c, e_v, e_kv, e_own, e_kown, e_vs, e_kvs1, e_kvs2, e_kvs3, e_kix, e_oix, e_koix1, e_koix2, e_oit, e_koit1, e_koit2, e_2b, e_2, e_k2, e_1, e_k1, e_a, e_tos, e_ktos, e_anil, e_consb, e_acons, e_scons, e_kcons, e_snil, e_tup, e_ktup, e_lst, e_klst, e_slcb, e_slca, e_slc, e_kslc, e_slc1, e_slc2, e_slc3, e_ono, e_oso, e_koso, e_and, e_andt, e_andf, e_or, e_ort, e_orf, e_not, e_knot, e_andv, e_orv, e_kandv, e_korv, e_andwt, e_andwf, e_orwt, e_orwf, e_chdt, e_chdf, e_chc, e_chb, e_ch, e_kch, e_tob, e_notd, e_knotd, e_neg, e_add, e_addt, e_adds, e_sub, e_lt, e_le, e_gt, e_ge, e_ixl, e_ixt, e_ixs, e_ixr, e_trn, e_trb, e_tri, e_trl, e_trt, e_trs, e_trr, e_lenl, e_lent, e_lens, e_lenr, e_abs, e_max, e_min, e_cat, e_list1, e_list2, e_tuple1, e_tuple2, e_isn, e_isnn, e_ns1, e_ns2, e_nns1, e_nns2, e_no1, e_no2, e_no3, e_no4, e_int1, e_int2, e_run, e_endn, e_endr, e_endx, e_start, e_w0, e_w1, e_frz, e_kfr, e_kfrb, e_name, e_namest, e_namesl, e_all0, e_all1, e_ktupt, e_ktupl, e_ktc, e_ktcons, e_ktnil, e_yes, e_scs, e_sc1, e_sc2, e_sc3, e_sc4, e_itl, e_itt, e_lca, e_lc, e_klc, e_l0, e_l1, e_kl1, e_kl2t, e_kl2f, e_kl3, e_lp0, e_lp1, e_klp, e_klpn, e_klpr, ok_bind, bind_exc, bind_stuck, fz_d, fz_l, fz_ll, oOf_some, noX_k, eqD_ii, neD_ii, eqD_in, neD_in, eqD_ss, gle, glt, mulL, mulR, divP, modP, rng1P, rng2P, at0, at1, at2, at3, at4, atm1a, atm1b, atm1c, atm1s, cut_tail, decide_true, decide_false, Bool.and_true, Bool.true_and, Bool.and_false, Bool.false_and, Bool.or_true, Bool.or_false, Bool.true_or, Bool.false_or, List.map_cons, List.map_nil, List.length_cons, List.length_nil, List.replicate, List.cons_append, List.nil_append, List.getElem?_cons_zero, List.getElem?_cons_succ, List.set_cons_zero, List.set_cons_succ, List.set_nil, Nat.reduceAdd, Nat.reduceSub, Nat.reduceLeDiff, Nat.reduceLT, guard_tt, ↓reduceIte, Bool.false_eq_true, Bool.not_true, Bool.not_false, Nat.zero_add, den_law_t5, g5, den_law_t6, den_law_s6, hne, den_law_t7, den_law_s7, hrd, hfz, heq]
end G

set_option Elab.async false
set_option linter.all false
set_option maxRecDepth 100000
set_option maxHeartbeats 4000000
namespace W_law_k10_whole_read
open PySem PySem.Spec L2 G
def topS (i : Nat) : Stmt := PySem.Challenge.pw_glyphyard_k10_whole_read.main.body.getD i (.Pass ⟨0, 0, 0, 0⟩)
abbrev st__law_cell : Stmt := topS 20
theorem sc__law_cell : FnScope ["script", "k"] ["script", "k"] (defScope st__law_cell) := ⟨rfl, rfl, rfl, by decide +kernel, rfl, by decide +kernel, by decide +kernel⟩
abbrev st__law_mix : Stmt := topS 21
theorem sc__law_mix : FnScope ["script", "k", "number"] ["script", "k"] (defScope st__law_mix) := ⟨rfl, rfl, rfl, by decide +kernel, rfl, by decide +kernel, by decide +kernel⟩
abbrev st__law_number : Stmt := topS 23
theorem sc__law_number : FnScope ["script", "k", "most", "number"] ["script", "k", "most"] (defScope st__law_number) := ⟨rfl, rfl, rfl, by decide +kernel, rfl, by decide +kernel, by decide +kernel⟩
abbrev st__law_step : Stmt := topS 24
theorem sc__law_step : FnScope ["script", "k", "most", "number", "j", "some"] ["script", "k", "most"] (defScope st__law_step) := ⟨rfl, rfl, rfl, by decide +kernel, rfl, by decide +kernel, by decide +kernel⟩
abbrev st__law_way : Stmt := topS 25
theorem sc__law_way : FnScope ["script", "k", "most", "found", "j"] ["script", "k", "most"] (defScope st__law_way) := ⟨rfl, rfl, rfl, by decide +kernel, rfl, by decide +kernel, by decide +kernel⟩
abbrev st__law_outline : Stmt := topS 26
theorem sc__law_outline : FnScope ["script", "k", "most", "j"] ["script", "k", "most"] (defScope st__law_outline) := ⟨rfl, rfl, rfl, by decide +kernel, rfl, by decide +kernel, by decide +kernel⟩
abbrev st__law_step_text : Stmt := topS 27
theorem sc__law_step_text : FnScope ["step", "number"] ["step"] (defScope st__law_step_text) := ⟨rfl, rfl, rfl, by decide +kernel, rfl, by decide +kernel, by decide +kernel⟩
abbrev st__law_text : Stmt := topS 28
theorem sc__law_text : FnScope ["outline", "way", "step"] ["outline"] (defScope st__law_text) := ⟨rfl, rfl, rfl, by decide +kernel, rfl, by decide +kernel, by decide +kernel⟩
abbrev st_Signs___init__ : Stmt := inClass (topS 15) 0
theorem sc_Signs___init__ : FnScope ["self", "text"] ["self", "text"] (defScope st_Signs___init__) := ⟨rfl, rfl, rfl, by decide +kernel, rfl, by decide +kernel, by decide +kernel⟩
abbrev st_Signs_sees : Stmt := inClass (topS 15) 1
theorem sc_Signs_sees : FnScope ["self"] ["self"] (defScope st_Signs_sees) := ⟨rfl, rfl, rfl, by decide +kernel, rfl, by decide +kernel, by decide +kernel⟩
abbrev st_Signs_number : Stmt := inClass (topS 15) 3
theorem sc_Signs_number : FnScope ["self", "start", "first", "word"] ["self"] (defScope st_Signs_number) := ⟨rfl, rfl, rfl, by decide +kernel, rfl, by decide +kernel, by decide +kernel⟩
abbrev st_read : Stmt := topS 16
theorem sc_read : FnScope ["text", "signs", "found", "letter", "good", "word", "k", "step", "end"] ["text"] (defScope st_read) := ⟨rfl, rfl, rfl, by decide +kernel, rfl, by decide +kernel, by decide +kernel⟩
abbrev st_look_way : Stmt := topS 9
theorem sc_look_way : FnScope ["way", "k", "step", "number"] ["way"] (defScope st_look_way) := ⟨rfl, rfl, rfl, by decide +kernel, rfl, by decide +kernel, by decide +kernel⟩
abbrev st_look_outline : Stmt := topS 10
theorem sc_look_outline : FnScope ["outline", "way"] ["outline"] (defScope st_look_outline) := ⟨rfl, rfl, rfl, by decide +kernel, rfl, by decide +kernel, by decide +kernel⟩
abbrev st_step_text : Stmt := topS 17
theorem sc_step_text : FnScope ["step", "one", "letter", "number"] ["step"] (defScope st_step_text) := ⟨rfl, rfl, rfl, by decide +kernel, rfl, by decide +kernel, by decide +kernel⟩
abbrev st_written : Stmt := topS 18
theorem sc_written : FnScope ["outline", "way", "step"] ["outline"] (defScope st_written) := ⟨rfl, rfl, rfl, by decide +kernel, rfl, by decide +kernel, by decide +kernel⟩
abbrev st__law_whole : Stmt := topS 22
theorem sc__law_whole : FnScope ["found"] ["found"] (defScope st__law_whole) := ⟨rfl, rfl, rfl, by decide +kernel, rfl, by decide +kernel, by decide +kernel⟩
abbrev st_law : Stmt := topS 29
theorem sc_law : FnScope ["script", "outline", "text", "way", "handed", "found", "step", "number"] ["script"] (defScope st_law) := ⟨rfl, rfl, rfl, by decide +kernel, rfl, by decide +kernel, by decide +kernel⟩
structure Bt (mg : Str → Option Value) : Prop where
  all : mg "all" = none
  bool : mg "bool" = none
  int : mg "int" = none
  isinstance : mg "isinstance" = none
  len : mg "len" = none
  list : mg "list" = none
  range : mg "range" = none
  str : mg "str" = none
  tuple : mg "tuple" = none
section
variable {P : Program} {w : World} {K : PySem.W.Frag} {mg : Str → Option Value} {base : Heap}
theorem ok__law_cell {f : Addr} {fd : FuncData} (F : Fun K "_law_cell" "_law_cell" st__law_cell f fd) (B : Bt mg) : FnOk P w K mg base (L2.CX P w) 1 f fd ["script", "k"] (spD K mg 2 m__law_cell) := by
  have sc := sc__law_cell
  exact okD (k := 0) F sc fun cdv A outer s H E tk po hr => (hs_cons (hs_if (ht_tru (hb_of (hd_v 0))) (hs_cons (hs_ret (he_of (hd_idx (hd_v 0) (hd_mod (hd_v 1) (hd_len B.len (hab_cons (hb_of (hd_v 0)) hab_nil)))))) hs_nil) hs_nil) (hs_cons (hs_ret (he_of hd_int)) hs_nil))
theorem ok__law_mix {f : Addr} {fd : FuncData} (F : Fun K "_law_mix" "_law_mix" st__law_mix f fd) (c__law_cell : Callee P w K mg base "_law_cell" 1 2 m__law_cell) : FnOk P w K mg base (L2.CX P w) 2 f fd ["script", "k"] (spD K mg 2 m__law_mix) := by
  have sc := sc__law_mix
  exact okD (k := 1) F sc fun cdv A outer s H E tk po hr => (hs_cons (hs_asg 2 sc.nd rfl (.inl rfl) (hd_mod (hd_add (hd_of (he_call c__law_cell (hr.mono (by decide)) tk (has_cons (hv_d (hd_v 0)) (has_cons (hv_d (hd_v 1)) has_nil)))) (hd_mul hd_int (hd_add (hd_v 1) hd_int))) hd_int)) (hs_cons (hs_asg 2 sc.nd rfl (.inl rfl) (hd_mod (hd_pow (hd_v 2) hd_int) hd_int)) (hs_cons (hs_ret (he_of (hd_mod (hd_add (hd_mul (hd_div (hd_v 2) hd_int) hd_int) (hd_v 2)) hd_int))) hs_nil)))
theorem ok__law_number {f : Addr} {fd : FuncData} (F : Fun K "_law_number" "_law_number" st__law_number f fd) (c__law_mix : Callee P w K mg base "_law_mix" 2 2 m__law_mix) : FnOk P w K mg base (L2.CX P w) 3 f fd ["script", "k", "most"] (spD K mg 3 m__law_number) := by
  have sc := sc__law_number
  exact okD (k := 2) F sc fun cdv A outer s H E tk po hr => (hs_cons (hs_asg 3 sc.nd rfl (.inl rfl) (hd_of (he_call c__law_mix (hr.mono (by decide)) tk (has_cons (hv_d (hd_v 0)) (has_cons (hv_d (hd_v 1)) has_nil))))) (hs_cons (hs_ret (he_of (hd_idx (hd_of (he_lst (ha_cons hd_int (ha_cons hd_int (ha_cons (hd_neg hd_int) (ha_cons (hd_sub (hd_mod (hd_div (hd_v 3) hd_int) hd_int) hd_int) (ha_cons (hd_sub (hd_mod (hd_div (hd_v 3) hd_int) (hd_add (hd_mul hd_int (hd_v 2)) hd_int)) (hd_v 2)) ha_nil))))))) (hd_mod (hd_v 3) hd_int)))) hs_nil))
theorem ok__law_step {f : Addr} {fd : FuncData} (F : Fun K "_law_step" "_law_step" st__law_step f fd) (B : Bt mg) (c__law_mix : Callee P w K mg base "_law_mix" 2 2 m__law_mix) (c__law_number : Callee P w K mg base "_law_number" 3 3 m__law_number) : FnOk P w K mg base (L2.CX P w) 4 f fd ["script", "k", "most"] (spD K mg 3 m__law_step) := by
  have sc := sc__law_step
  exact okD (k := 3) F sc fun cdv A outer s H E tk po hr => (hs_cons (hs_asg 3 sc.nd rfl (.inl rfl) (hd_of (he_call c__law_mix (hr.mono (by decide)) tk (has_cons (hv_d (hd_v 0)) (has_cons (hv_d (hd_v 1)) has_nil))))) (hs_cons (hs_if (ht_lt (hd_mod (hd_v 3) hd_int) hd_int) (hs_cons (hs_ret (he_of (hd_tup (ha_cons hd_str (ha_cons (hd_of (he_call c__law_number (hr.mono (by decide)) tk (has_cons (hv_d (hd_v 0)) (has_cons (hv_d (hd_add (hd_v 1) hd_int)) (has_cons (hv_d (hd_v 2)) has_nil))))) (ha_cons (hd_of (he_call c__law_number (hr.mono (by decide)) tk (has_cons (hv_d (hd_v 0)) (has_cons (hv_d (hd_add (hd_v 1) hd_int)) (has_cons (hv_d (hd_v 2)) has_nil))))) ha_nil)))))) hs_nil) hs_nil) (hs_cons (hs_lc 5 (own := [("j", 4)]) rfl sc.nd rfl rfl (sw_true rfl rfl rfl (by decide +kernel)) (hib_of (hi_rng1 B.range (ha_cons hd_int ha_nil))) (blkOk_by (by kernel_rfl)) (fun _ _ _ _ _ => (pg_name (i := 4) sc.nd rfl (.inl rfl))) (grd_name 4) (fun _ _ _ _ _ => (hd_of (he_call c__law_number (hr.mono (by decide)) takes0 (has_cons (hv_d (hd_v 0)) (has_cons (hv_d (hd_add (hd_add (hd_v 1) hd_int) (hd_v 4))) (has_cons (hv_d (hd_v 2)) has_nil))))))) (hs_frz 5 (hs_cons (hs_ret (he_of (hd_add (hd_tup (ha_cons hd_str ha_nil)) (hd_tuple B.tuple (ha_cons (hd_v 5) ha_nil))))) hs_nil)))))
theorem ok__law_way {f : Addr} {fd : FuncData} (F : Fun K "_law_way" "_law_way" st__law_way f fd) (B : Bt mg) (c__law_number : Callee P w K mg base "_law_number" 3 3 m__law_number) (c__law_mix : Callee P w K mg base "_law_mix" 2 2 m__law_mix) (c__law_step : Callee P w K mg base "_law_step" 4 3 m__law_step) : FnOk P w K mg base (L2.CX P w) 5 f fd ["script", "k", "most"] (spD K mg 3 m__law_way) := by
  have sc := sc__law_way
  exact okD (k := 4) F sc fun cdv A outer s H E tk po hr => (hs_cons (hs_asgE 3 sc.nd rfl (.inl rfl) (he_lst (ha_cons (hd_tup (ha_cons hd_str (ha_cons (hd_of (he_call c__law_number (hr.mono (by decide)) tk (has_cons (hv_d (hd_v 0)) (has_cons (hv_d (hd_v 1)) (has_cons (hv_d (hd_v 2)) has_nil))))) (ha_cons (hd_of (he_call c__law_number (hr.mono (by decide)) tk (has_cons (hv_d (hd_v 0)) (has_cons (hv_d (hd_add (hd_v 1) hd_int)) (has_cons (hv_d (hd_v 2)) has_nil))))) ha_nil)))) ha_nil))) (hs_cons (hs_for po rfl (hi_rng1 B.range (ha_cons (hd_mod (hd_of (he_call c__law_mix (hr.mono (by decide)) tk (has_cons (hv_d (hd_v 0)) (has_cons (hv_d (hd_add (hd_v 1) hd_int)) has_nil)))) hd_int) ha_nil)) ⟨(pg_name (i := 4) sc.nd rfl (.inl rfl)), (grd_name 4)⟩ (hs_cons (hs_app 3 (pe_bm PySem.F.plainAttrs_list PySem.F.slot_list_append PySem.F.type_list_append mt_append (pv 3) (pa_cons (HD.pe (hd_of (he_call c__law_step (hr.mono (by decide)) tk (has_cons (hv_d (hd_v 0)) (has_cons (hv_d (hd_add (hd_add (hd_v 1) hd_int) (hd_mul hd_int (hd_v 4)))) (has_cons (hv_d (hd_v 2)) has_nil)))))) pa_nil))) (hs_wipe [4] hs_nil))) (hs_cons (hs_retV 3) hs_nil)))
theorem ok__law_outline {f : Addr} {fd : FuncData} (F : Fun K "_law_outline" "_law_outline" st__law_outline f fd) (B : Bt mg) (c__law_mix : Callee P w K mg base "_law_mix" 2 2 m__law_mix) (c__law_way : Callee P w K mg base "_law_way" 5 3 m__law_way) : FnOk P w K mg base (L2.CX P w) 6 f fd ["script", "k", "most"] (spD K mg 3 m__law_outline) := by
  have sc := sc__law_outline
  exact okD (k := 5) F sc fun cdv A outer s H E tk po hr => (hs_cons (hs_ret (he_lc (own := [("j", 3)]) rfl sc.nd (hib_of (hi_rng1 B.range (ha_cons (hd_idx (hd_of (he_lst (ha_cons hd_int (ha_cons hd_int (ha_cons hd_int (ha_cons hd_int (ha_cons hd_int (ha_cons hd_int ha_nil)))))))) (hd_mod (hd_of (he_call c__law_mix (hr.mono (by decide)) tk (has_cons (hv_d (hd_v 0)) (has_cons (hv_d (hd_add (hd_v 1) hd_int)) has_nil)))) hd_int)) ha_nil))) (blkOk_by (by kernel_rfl)) (fun _ _ _ _ _ => (pg_name (i := 3) sc.nd rfl (.inl rfl))) (grd_name 3) (fun _ _ _ _ _ => (hd_of (he_call c__law_way (hr.mono (by decide)) takes0 (has_cons (hv_d (hd_v 0)) (has_cons (hv_d (hd_add (hd_v 1) (hd_mul hd_int (hd_v 3)))) (has_cons (hv_d (hd_v 2)) has_nil)))))))) hs_nil)
theorem ok__law_step_text {f : Addr} {fd : FuncData} (F : Fun K "_law_step_text" "_law_step_text" st__law_step_text f fd) (B : Bt mg) : FnOk P w K mg base (L2.CX P w) 1 f fd ["step"] (spD K mg 1 m__law_step_text) := by
  have sc := sc__law_step_text
  exact okD (k := 0) F sc fun cdv A outer s H E tk po hr => (hs_cons (hs_ret (he_of (hd_join (hd_of (he_cat (hd_of (he_lst (ha_cons (hd_didx [("at", "M"), ("to", "L"), ("by", "Q")] hr.units (pps_cons pe_str pe_str (pps_cons pe_str pe_str (pps_cons pe_str pe_str pps_nil))) (hd_idx (hd_v 0) hd_int) rfl (List.cons_ne_nil _ _)) ha_nil))) (hd_of (he_lc (own := [("number", 1)]) rfl sc.nd (hib_of (hi_tup (hd_of (he_slc (hd_v 0) (ho_so hd_int) ho_no)))) (blkOk_by (by kernel_rfl)) (fun _ _ _ _ _ => (pg_name (i := 1) sc.nd rfl (.inl rfl))) (grd_name 1) (fun _ _ _ _ _ => (hd_str' B.str (hab_cons (hb_of (hd_v 1)) hab_nil)))))))))) hs_nil)
theorem ok__law_text {f : Addr} {fd : FuncData} (F : Fun K "_law_text" "_law_text" st__law_text f fd) (c__law_step_text : Callee P w K mg base "_law_step_text" 1 1 m__law_step_text) : FnOk P w K mg base (L2.CX P w) 2 f fd ["outline"] (spD K mg 1 m__law_text) := by
  have sc := sc__law_text
  exact okD (k := 1) F sc fun cdv A outer s H E tk po hr => (hs_cons (hs_ret (he_of (hd_join (hd_of (he_lc (own := [("way", 1)]) rfl sc.nd (hib_of (hi_list (hd_v 0))) (blkOk_by (by kernel_rfl)) (fun _ _ _ _ _ => (pg_name (i := 1) sc.nd rfl (.inl rfl))) (grd_name 1) (fun _ _ _ _ _ => (hd_join (hd_of (he_lc (own := [("step", 2)]) rfl sc.nd (hib_of (hi_list (hd_v 1))) (blkOk_by (by kernel_rfl)) (fun _ _ _ _ _ => (pg_name (i := 2) sc.nd rfl (.inl rfl))) (grd_name 2) (fun _ _ _ _ _ => (hd_of (he_call c__law_step_text (hr.mono (by decide)) takes0 (has_cons (hv_d (hd_v 2)) has_nil))))))))))))) hs_nil)
theorem ok_Signs___init__ {f : Addr} {fd : FuncData} (F : Fun K "__init__" "Signs.__init__" st_Signs___init__ f fd) {C_Signs : Addr} (T_Signs : CF K mg "Signs" C_Signs) (na_Signs_text : NoAttr K C_Signs "text") (na_Signs_at : NoAttr K C_Signs "at") : FnOk P w K mg base (L2.CX P w) 1 f fd ["self", "text"] (spI K mg C_Signs 1 mi_Signs) := by
  have sc := sc_Signs___init__
  exact (by
    refine okIF (kk := 0) (n := 1) F sc rfl (by decide) rfl T_Signs.cl na_Signs_text na_Signs_at (by decide +kernel) ?_
    intro cdv A outer s H E hr
    exact ⟨(hd_v 1), hd_int, rfl, .inl rfl, by decide, by decide, rfl, rfl⟩)
theorem ok_Signs_sees {f : Addr} {fd : FuncData} (F : Fun K "sees" "Signs.sees" st_Signs_sees f fd) {C_Signs : Addr} (T_Signs : CF K mg "Signs" C_Signs) (na_Signs_text : NoAttr K C_Signs "text") (na_Signs_at : NoAttr K C_Signs "at") : FnOk P w K mg base (L2.CX P w) 1 f fd ["self"] (spD K mg 1 m_Signs_sees) := by
  have sc := sc_Signs_sees
  exact okD (k := 0) F sc fun cdv A outer s H E tk po hr => (hs_cons (hs_ret (he_slc (hd_fld 0 T_Signs na_Signs_text) (ho_so (hd_fld 0 T_Signs na_Signs_at)) (ho_so (hd_add (hd_fld 0 T_Signs na_Signs_at) hd_int)))) hs_nil)
theorem ok_Signs_number {f : Addr} {fd : FuncData} (F : Fun K "number" "Signs.number" st_Signs_number f fd) {C_Signs : Addr} (T_Signs : CF K mg "Signs" C_Signs) (na_Signs_at : NoAttr K C_Signs "at") (na_Signs_text : NoAttr K C_Signs "text") (B : Bt mg) {t_FIGURES : Tok} (g_FIGURES : mg "FIGURES" = some (.str "0123456789" t_FIGURES)) {t_MOST_FIGURES : Tok} (g_MOST_FIGURES : mg "MOST_FIGURES" = some (.int 6 t_MOST_FIGURES)) {t_MOST : Tok} (g_MOST : mg "MOST" = some (.int 100000 t_MOST)) (mc_Signs_sees : MCallee P w K mg base "Signs" "sees" 1 1 m_Signs_sees) : FnOk P w K mg base (L2.CX P w) 2 f fd ["self"] (spM K mg "Signs" mo_Signs_number) := by
  have sc := sc_Signs_number
  exact okM (k := 1) F sc rfl (by decide) fun cdv A outer s H E tk po hr => (hr_cons (hs_if (ht_ne hr.units (hb_of (hd_methS 0 mc_Signs_sees (hr.mono (by decide)) tk)) (hb_of hd_str)) (hs_cons hs_stuck hs_nil) hs_nil) (hr_cons (hs_fset 0 T_Signs na_Signs_at (hd_add (hd_fldM 0 T_Signs na_Signs_at) hd_int)) (hr_cons (hs_asg 1 sc.nd rfl (.inl rfl) (hd_fldM 0 T_Signs na_Signs_at)) (hr_cons (hs_if (ht_eq hr.units (hb_of (hd_methS 0 mc_Signs_sees (hr.mono (by decide)) tk)) (hb_of hd_str)) (hs_cons (hs_fset 0 T_Signs na_Signs_at (hd_add (hd_fldM 0 T_Signs na_Signs_at) hd_int)) hs_nil) hs_nil) (hr_cons (hs_asg 2 sc.nd rfl (.inl rfl) (hd_fldM 0 T_Signs na_Signs_at)) (hr_cons (hs_while 100000 po (hw_and (ht_ne hr.units (hb_of (hd_methS 0 mc_Signs_sees (hr.mono (by decide)) tk)) (hb_of hd_str)) (hw_and1 (ht_in hr.units (hd_methS 0 mc_Signs_sees (hr.mono (by decide)) tk) (hd_gstr (by rfl) g_FIGURES) (by rfl)))).t (hs_cons (hs_fset 0 T_Signs na_Signs_at (hd_add (hd_fldM 0 T_Signs na_Signs_at) hd_int)) hs_nil)) (hr_cons (hs_asg 3 sc.nd rfl (.inl rfl) (hd_of (he_slc (hd_fldM 0 T_Signs na_Signs_text) (ho_so (hd_v 2)) (ho_so (hd_fldM 0 T_Signs na_Signs_at))))) (hr_cons (hs_if (ht_eq hr.units (hb_of (hd_v 3)) (hb_of hd_str)) (hs_cons hs_stuck hs_nil) hs_nil) (hr_cons (hs_if (hw_or (hw_and (ht_gt (hd_len B.len (hab_cons (hb_of (hd_v 3)) hab_nil)) hd_int) (hw_and1 (ht_eq hr.units (hb_of (hd_idx (hd_v 3) hd_int)) (hb_of hd_str)))).t (hw_or1 (hw_and (ht_eq hr.units (hb_of (hd_v 3)) (hb_of hd_str)) (hw_and1 (ht_lt (hd_v 1) (hd_v 2)))).t)).t (hs_cons hs_stuck hs_nil) hs_nil) (hr_cons (hs_if (hw_or (ht_gt (hd_len B.len (hab_cons (hb_of (hd_v 3)) hab_nil)) (hd_gint (by rfl) g_MOST_FIGURES)) (hw_or1 (ht_gt (hd_int' B.int (hab_cons (hb_of (hd_v 3)) hab_nil)) (hd_gint (by rfl) g_MOST)))).t (hs_cons hs_stuck hs_nil) hs_nil) (hr_ret (hd_int' B.int (hab_cons (hb_of (hd_of (he_slc (hd_fldM 0 T_Signs na_Signs_text) (ho_so (hd_v 1)) (ho_so (hd_fldM 0 T_Signs na_Signs_at))))) hab_nil))) (by decide)) (by decide)) (by decide)) (by decide)) (by decide)) (by decide)) (by decide)) (by decide)) (by decide)) (by decide))
theorem ok_read {f : Addr} {fd : FuncData} (F : Fun K "read" "read" st_read f fd) {C_Signs : Addr} (T_Signs : CF K mg "Signs" C_Signs) (na_Signs_at : NoAttr K C_Signs "at") (B : Bt mg) {t_MOST_WAYS : Tok} (g_MOST_WAYS : mg "MOST_WAYS" = some (.int 40 t_MOST_WAYS)) {t_MOST_STEPS : Tok} (g_MOST_STEPS : mg "MOST_STEPS" = some (.int 200 t_MOST_STEPS)) (gt_COUNTS : GDT K w mg "COUNTS" tt_COUNTS) (gt_LETTERS : GDT K w mg "LETTERS" tt_LETTERS) (mc_Signs_sees : MCallee P w K mg base "Signs" "sees" 1 1 m_Signs_sees) (oc_Signs_number : OCallee P w K mg base "Signs" "number" 2 mo_Signs_number) (ic_Signs : ICallee P w K mg base "Signs" 1 1 mi_Signs) : FnOk P w K mg base (L2.CX P w) 3 f fd ["text"] (spD K mg 1 m_read) := by
  have sc := sc_read
  exact okD (k := 2) F sc fun cdv A outer s H E tk po hr => (hs_cons (hs_asgE 1 sc.nd rfl (.inr rfl) (he_makeM ic_Signs (hr.mono (by decide)) (has_cons (hv_d (hd_v 0)) has_nil))) (hs_cons (hs_asgE 2 sc.nd rfl (.inl rfl) (he_lst ha_nil)) (hs_cons (hs_while 100000 po (ht_lt (hd_fldM 1 T_Signs na_Signs_at) (hd_len B.len (hab_cons (hb_of (hd_v 0)) hab_nil))) (hs_cons (hs_asg 3 sc.nd rfl (.inl rfl) (hd_methS 1 mc_Signs_sees (hr.mono (by decide)) tk)) (hs_cons (hs_asg 4 sc.nd rfl (.inl rfl) (hd_and (hd_gin gt_LETTERS (hd_v 3)) (hd_one (he_eq hr.units (hb_of (he_eq hr.units (hb_of (hd_v 3)) (hb_of hd_str))) (hb_of (hd_or (hd_not (hb_v 2)) (hd_one (hd_and (hd_gt (hd_fldM 1 T_Signs na_Signs_at) hd_int) (hd_one (he_eq hr.units (hb_of (hd_idx (hd_v 0) (hd_sub (hd_fldM 1 T_Signs na_Signs_at) hd_int))) (hb_of hd_str))))))))))) (hs_cons (hs_if (hw_or (ht_not (ht_tru (hb_of (hd_v 4)))) (hw_or (hw_and (ht_eq hr.units (hb_of (hd_v 3)) (hb_of hd_str)) (hw_and1 (ht_eq hr.units (hb_of (hd_len B.len (hab_cons (hb_v 2) hab_nil))) (hb_of (hd_gint (by rfl) g_MOST_WAYS))))).t (hw_or1 (hw_and (ht_ne hr.units (hb_of (hd_v 3)) (hb_of hd_str)) (hw_and1 (ht_eq hr.units (hb_of (hd_len B.len (hab_cons (hb_idx (hb_v 2) (hb_of (hd_neg hd_int))) hab_nil))) (hb_of (hd_gint (by rfl) g_MOST_STEPS))))).t))).t (hs_cons hs_stuck hs_nil) hs_nil) (hs_cons (hs_asg 5 sc.nd rfl (.inl rfl) (hd_gidx gt_LETTERS (hd_v 3))) (hs_cons (hs_fset 1 T_Signs na_Signs_at (hd_add (hd_fldM 1 T_Signs na_Signs_at) hd_int)) (hs_cons (hs_asgX 7 sc.nd rfl (.inl rfl) (hx_add (hd_tup (ha_cons (hd_v 5) ha_nil)) (hx_tuple B.tuple (hx_lc (own := [("k", 6)]) rfl sc.nd (hi_rng1 B.range (ha_cons (hd_sub (hd_gidx gt_COUNTS (hd_v 5)) hd_int) ha_nil)) (blkOk_by (by kernel_rfl)) (fun _ _ _ _ _ => (pg_name (i := 6) sc.nd rfl (.inl rfl))) (grd_name 6) (fun _ _ _ _ _ => (hx_meth 1 oc_Signs_number (hr.mono (by decide)) takes0))))) (fixX_add (fixX_tuple (fixX_lcN 6 fixX_meth)))) (hs_cons (hs_if (ht_eq hr.units (hb_of (hd_v 5)) (hb_of hd_str)) (hs_cons (hs_appL 2 (pe_bm PySem.F.plainAttrs_list PySem.F.slot_list_append PySem.F.type_list_append mt_append (pv 2) (pa_cons (HE.pe (he_lst ha_nil)) pa_nil))) hs_nil) hs_nil) (hs_cons (hs_app2 2 (pe_bm PySem.F.plainAttrs_list PySem.F.slot_list_append PySem.F.type_list_append mt_append (pe_ix ix_list (pv 2) (HD.pe (hd_neg hd_int)) (fun _ _ => rfl)) (pa_cons (HD.pe (hd_v 7)) pa_nil))) (hs_cons (hs_asg 8 sc.nd rfl (.inl rfl) (hd_methS 1 mc_Signs_sees (hr.mono (by decide)) tk)) (hs_cons (hs_if (ht_notin hr.units (hd_v 8) (hd_tup (ha_cons hd_str (ha_cons hd_str (ha_cons hd_str ha_nil)))) (by rfl)) (hs_cons hs_stuck hs_nil) hs_nil) (hs_cons (hs_fset 1 T_Signs na_Signs_at (hd_add (hd_fldM 1 T_Signs na_Signs_at) hd_int)) (hs_cons (hs_if (hw_and (ht_ne hr.units (hb_of (hd_v 8)) (hb_of hd_str)) (hw_and1 (ht_eq hr.units (hb_of (hd_fldM 1 T_Signs na_Signs_at)) (hb_of (hd_len B.len (hab_cons (hb_of (hd_v 0)) hab_nil)))))).t (hs_cons hs_stuck hs_nil) hs_nil) (hs_wipe [3, 4, 5, 7, 8] hs_nil)))))))))))))) (hs_cons (hs_retV 2) hs_nil))))
theorem ok_look_way {f : Addr} {fd : FuncData} (F : Fun K "look_way" "look_way" st_look_way f fd) (B : Bt mg) {t_MOST_STEPS : Tok} (g_MOST_STEPS : mg "MOST_STEPS" = some (.int 200 t_MOST_STEPS)) {t_MOST : Tok} (g_MOST : mg "MOST" = some (.int 100000 t_MOST)) {a_BadOutline : Addr} (x_BadOutline : ExF K mg "BadOutline" a_BadOutline) (gd_COUNTS : GD K w mg "COUNTS" t_COUNTS) : FnOk P w K mg base (L2.CX P w) 1 f fd ["way"] (spD K mg 1 m_look_way) := by
  have sc := sc_look_way
  exact okD (k := 0) F sc fun cdv A outer s H E tk po hr => (hs_cons (hs_if (hw_or (ht_not (ht_chain op_le opb_le.d op_le opb_le.d hd_int (hd_len B.len (hab_cons (hb_of (hd_v 0)) hab_nil)) (hd_gint (by rfl) g_MOST_STEPS))) (hw_or1 (ht_ne hr.units (hb_of (hd_idx (hd_idx (hd_v 0) hd_int) hd_int)) (hb_of hd_str)))).t (hs_cons (hs_raise rfl tk x_BadOutline) hs_nil) hs_nil) (hs_cons (hs_for po rfl (hi_rng1 B.range (ha_cons (hd_len B.len (hab_cons (hb_of (hd_v 0)) hab_nil)) ha_nil)) ⟨(pg_name (i := 1) sc.nd rfl (.inl rfl)), (grd_name 1)⟩ (hs_cons (hs_asg 2 sc.nd rfl (.inl rfl) (hd_idx (hd_v 0) (hd_v 1))) (hs_cons (hs_if (hw_or (ht_ne hr.units (hb_of (hd_gget gd_COUNTS (hd_idx (hd_v 2) hd_int))) (hb_of (hd_len B.len (hab_cons (hb_of (hd_v 2)) hab_nil)))) (hw_or1 (hw_and (ht_gt (hd_v 1) hd_int) (hw_and1 (ht_eq hr.units (hb_of (hd_idx (hd_v 2) hd_int)) (hb_of hd_str)))).t)).t (hs_cons (hs_raise rfl tk x_BadOutline) hs_nil) hs_nil) (hs_cons (hs_if (ht_not (ht_tru (hb_of (hd_all rfl B.all (hab_cons (hb_of (hd_of (he_lc (own := [("number", 3)]) rfl sc.nd (hib_of (hi_tup (hd_of (he_slc (hd_v 2) (ho_so hd_int) ho_no)))) (blkOk_by (by kernel_rfl)) (fun _ _ _ _ _ => (pg_name (i := 3) sc.nd rfl (.inl rfl))) (grd_name 3) (fun _ _ _ _ _ => (hd_chain op_le opb_le.d op_le opb_le.d (hd_neg (hd_gint (by rfl) g_MOST)) (hd_v 3) (hd_gint (by rfl) g_MOST)))))) hab_nil))))) (hs_cons (hs_raise rfl tk x_BadOutline) hs_nil) hs_nil) (hs_wipe [1, 2] hs_nil))))) hs_nil))
theorem ok_look_outline {f : Addr} {fd : FuncData} (F : Fun K "look_outline" "look_outline" st_look_outline f fd) (B : Bt mg) {t_MOST_WAYS : Tok} (g_MOST_WAYS : mg "MOST_WAYS" = some (.int 40 t_MOST_WAYS)) {a_BadOutline : Addr} (x_BadOutline : ExF K mg "BadOutline" a_BadOutline) (c_look_way : Callee P w K mg base "look_way" 1 1 m_look_way) : FnOk P w K mg base (L2.CX P w) 2 f fd ["outline"] (spD K mg 1 m_look_outline) := by
  have sc := sc_look_outline
  exact okD (k := 1) F sc fun cdv A outer s H E tk po hr => (hs_cons (hs_if (ht_gt (hd_len B.len (hab_cons (hb_of (hd_v 0)) hab_nil)) (hd_gint (by rfl) g_MOST_WAYS)) (hs_cons (hs_raise rfl tk x_BadOutline) hs_nil) hs_nil) (hs_cons (hs_for po rfl (hi_list (hd_v 0)) ⟨(pg_name (i := 1) sc.nd rfl (.inl rfl)), (grd_name 1)⟩ (hs_cons (hs_expr (he_call c_look_way (hr.mono (by decide)) tk (has_cons (hv_d (hd_v 1)) has_nil))) (hs_wipe [1] hs_nil))) hs_nil))
theorem ok_step_text {f : Addr} {fd : FuncData} (F : Fun K "step_text" "step_text" st_step_text f fd) (B : Bt mg) (gt_LETTERS : GDT K w mg "LETTERS" tt_LETTERS) : FnOk P w K mg base (L2.CX P w) 1 f fd ["step"] (spD K mg 1 m_step_text) := by
  have sc := sc_step_text
  exact okD (k := 0) F sc fun cdv A outer s H E tk po hr => (hs_cons (hs_asg 2 sc.nd rfl (.inl rfl) (hd_idx (hd_of (he_lcT (own := [("one", 1)]) rfl sc.nd (hib_of (hi_gd gt_LETTERS)) (blkOk_by (by kernel_rfl)) (fun _ _ _ _ _ => (pg_name (i := 1) sc.nd rfl (.inl rfl))) (grd_name 1) (fun _ _ _ _ _ => (ht_eq hr.units (hb_of (hd_gidx gt_LETTERS (hd_v 1))) (hb_of (hd_idx (hd_v 0) hd_int)))) (fun _ _ _ _ _ => (hd_v 1)))) hd_int)) (hs_cons (hs_ret (he_of (hd_join (hd_of (he_cat (hd_of (he_lst (ha_cons (hd_v 2) ha_nil))) (hd_of (he_lc (own := [("number", 3)]) rfl sc.nd (hib_of (hi_tup (hd_of (he_slc (hd_v 0) (ho_so hd_int) ho_no)))) (blkOk_by (by kernel_rfl)) (fun _ _ _ _ _ => (pg_name (i := 3) sc.nd rfl (.inl rfl))) (grd_name 3) (fun _ _ _ _ _ => (hd_str' B.str (hab_cons (hb_of (hd_v 3)) hab_nil)))))))))) hs_nil))
theorem ok_written {f : Addr} {fd : FuncData} (F : Fun K "written" "written" st_written f fd) (c_look_outline : Callee P w K mg base "look_outline" 2 1 m_look_outline) (c_step_text : Callee P w K mg base "step_text" 1 1 m_step_text) : FnOk P w K mg base (L2.CX P w) 3 f fd ["outline"] (spD K mg 1 m_written) := by
  have sc := sc_written
  exact okD (k := 2) F sc fun cdv A outer s H E tk po hr => (hs_cons (hs_expr (he_call c_look_outline (hr.mono (by decide)) tk (has_cons (hv_d (hd_v 0)) has_nil))) (hs_cons (hs_ret (he_of (hd_join (hd_of (he_lc (own := [("way", 1)]) rfl sc.nd (hib_of (hi_list (hd_v 0))) (blkOk_by (by kernel_rfl)) (fun _ _ _ _ _ => (pg_name (i := 1) sc.nd rfl (.inl rfl))) (grd_name 1) (fun _ _ _ _ _ => (hd_join (hd_of (he_lc (own := [("step", 2)]) rfl sc.nd (hib_of (hi_list (hd_v 1))) (blkOk_by (by kernel_rfl)) (fun _ _ _ _ _ => (pg_name (i := 2) sc.nd rfl (.inl rfl))) (grd_name 2) (fun _ _ _ _ _ => (hd_of (he_call c_step_text (hr.mono (by decide)) takes0 (has_cons (hv_d (hd_v 2)) has_nil))))))))))))) hs_nil))
theorem ok__law_whole {f : Addr} {fd : FuncData} (F : Fun K "_law_whole" "_law_whole" st__law_whole f fd) (B : Bt mg) : FnOk P w K mg base (L2.CX P w) 1 f fd ["found"] (spD K mg 1 m__law_whole) := by
  have sc := sc__law_whole
  exact okD (k := 0) F sc fun cdv A outer s H E tk po hr => (hs_cons (hs_ret (he_of (hd_and (hd_isi "int" B.isinstance B.int (hb_of (hd_v 0))) (hd_one (hd_not (hb_of (hd_isi "bool" B.isinstance B.bool (hb_of (hd_v 0))))))))) hs_nil)
theorem ok_law {f : Addr} {fd : FuncData} (F : Fun K "law" "law" st_law f fd) (B : Bt mg) (c__law_mix : Callee P w K mg base "_law_mix" 2 2 m__law_mix) (c__law_outline : Callee P w K mg base "_law_outline" 6 3 m__law_outline) (c__law_text : Callee P w K mg base "_law_text" 2 1 m__law_text) (c_written : Callee P w K mg base "written" 3 1 m_written) (c_read : Callee P w K mg base "read" 3 1 m_read) (c__law_whole : Callee P w K mg base "_law_whole" 1 1 m__law_whole) : FnOk P w K mg base (L2.CX P w) 7 f fd ["script"] (spD K mg 1 m_law) := by
  have sc := sc_law
  exact okD (k := 6) F sc fun cdv A outer s H E tk po hr => (hs_cons (hs_asg 1 sc.nd rfl (.inl rfl) (hd_of (he_call c__law_outline (hr.mono (by decide)) tk (has_cons (hv_d (hd_v 0)) (has_cons (hv_d hd_int) (has_cons (hv_d (hd_idx (hd_of (he_lst (ha_cons hd_int (ha_cons hd_int ha_nil)))) (hd_mod (hd_of (he_call c__law_mix (hr.mono (by decide)) tk (has_cons (hv_d (hd_v 0)) (has_cons (hv_d hd_int) has_nil)))) hd_int))) has_nil)))))) (hs_cons (hs_asg 2 sc.nd rfl (.inl rfl) (hd_of (he_call c__law_text (hr.mono (by decide)) tk (has_cons (hv_d (hd_v 1)) has_nil)))) (hs_cons (hs_lc 4 (own := [("way", 3)]) rfl sc.nd rfl rfl (sw_true rfl rfl rfl (by decide +kernel)) (hib_of (hi_list (hd_v 1))) (blkOk_by (by kernel_rfl)) (fun _ _ _ _ _ => (pg_name (i := 3) sc.nd rfl (.inl rfl))) (grd_name 3) (fun _ _ _ _ _ => (hd_of (he_list B.list (ha_cons (hd_v 3) ha_nil))))) (hs_frz 4 (hs_cons (hs_if (hw_or (ht_ne hr.units (hb_of (hd_of (he_call c_written (hr.mono (by decide)) tk (has_cons (hv_d (hd_v 4)) has_nil)))) (hb_of (hd_v 2))) (hw_or1 (ht_ne hr.units (hb_of (hd_v 4)) (hb_of (hd_v 1))))).t (hs_cons (hs_ret (he_of hd_bl)) hs_nil) hs_nil) (hs_cons (hs_asgE 5 sc.nd rfl (.inl rfl) (he_call c_read (hr.mono (by decide)) tk (has_cons (hv_d (hd_v 2)) has_nil))) (hs_thaw 5 (hs_cons (hs_forO 5 po rfl ⟨(pg_name (i := 3) sc.nd rfl (.inl rfl)), (grd_name 3)⟩ (hs_cons (hs_for po rfl (hi_list (hd_v 3)) ⟨(pg_name (i := 6) sc.nd rfl (.inl rfl)), (grd_name 6)⟩ (hs_cons (hs_if (hw_or (ht_not (ht_tru (hb_of (hd_isi "tuple" B.isinstance B.tuple (hb_of (hd_v 6)))))) (hw_or1 (ht_not (ht_tru (hb_of (hd_all rfl B.all (hab_cons (hb_of (hd_of (he_lc (own := [("number", 7)]) rfl sc.nd (hib_of (hi_tup (hd_of (he_slc (hd_v 6) (ho_so hd_int) ho_no)))) (blkOk_by (by kernel_rfl)) (fun _ _ _ _ _ => (pg_name (i := 7) sc.nd rfl (.inl rfl))) (grd_name 7) (fun _ _ _ _ _ => (hd_of (he_call c__law_whole (hr.mono (by decide)) takes0 (has_cons (hv_d (hd_v 7)) has_nil))))))) hab_nil))))))).t (hs_cons (hs_ret (he_of hd_bl)) hs_nil) hs_nil) (hs_wipe [6] hs_nil))) (hs_wipe [3, 6] hs_nil)) (by decide)) (hs_cons (hs_if (ht_ne hr.units (hb_v 5) (hb_of (hd_v 1))) (hs_cons (hs_ret (he_of hd_bl)) hs_nil) hs_nil) (hs_cons (hs_app 5 (pe_bm PySem.F.plainAttrs_list PySem.F.slot_list_append PySem.F.type_list_append mt_append (pv 5) (pa_cons (HD.pe hd_int) pa_nil))) (hs_cons (hs_ret (he_of (he_eq hr.units (hb_of (hd_of (he_call c_read (hr.mono (by decide)) tk (has_cons (hv_d (hd_v 2)) has_nil)))) (hb_of (hd_v 1))))) hs_nil)))))))))))
theorem all_mk {fa : Addr} (hpure : ∀ ns : List Int, ns.length ≤ 63 → m_law [.d (.scr ns)] = .ok (.d (.bl true))) {h : Heap} (X : K.In h) (G : h.Ns mainGlobals mg) (hfa : mg "law" = some (.ref fa)) {C_Signs : Addr} {f0 : Addr} {od0 an0 : Option Addr} {sl0 : Array (Option Value)} {oc0 kV0 dc0 pm0 cd0 ct0 : Value} {f1 : Addr} {od1 an1 : Option Addr} {sl1 : Array (Option Value)} {oc1 kV1 dc1 pm1 cd1 ct1 : Value} {f2 : Addr} {od2 an2 : Option Addr} {sl2 : Array (Option Value)} {oc2 kV2 dc2 pm2 cd2 ct2 : Value} {f3 : Addr} {od3 an3 : Option Addr} {sl3 : Array (Option Value)} {oc3 kV3 dc3 pm3 cd3 ct3 : Value} {f4 : Addr} {od4 an4 : Option Addr} {sl4 : Array (Option Value)} {oc4 kV4 dc4 pm4 cd4 ct4 : Value} {f5 : Addr} {od5 an5 : Option Addr} {sl5 : Array (Option Value)} {oc5 kV5 dc5 pm5 cd5 ct5 : Value} {f6 : Addr} {od6 an6 : Option Addr} {sl6 : Array (Option Value)} {oc6 kV6 dc6 pm6 cd6 ct6 : Value} {f7 : Addr} {od7 an7 : Option Addr} {sl7 : Array (Option Value)} {oc7 kV7 dc7 pm7 cd7 ct7 : Value} {f8 : Addr} {od8 an8 : Option Addr} {sl8 : Array (Option Value)} {oc8 kV8 dc8 pm8 cd8 ct8 : Value} {f9 : Addr} {od9 an9 : Option Addr} {sl9 : Array (Option Value)} {oc9 kV9 dc9 pm9 cd9 ct9 : Value} {f10 : Addr} {od10 an10 : Option Addr} {sl10 : Array (Option Value)} {oc10 kV10 dc10 pm10 cd10 ct10 : Value} {f11 : Addr} {od11 an11 : Option Addr} {sl11 : Array (Option Value)} {oc11 kV11 dc11 pm11 cd11 ct11 : Value} {f12 : Addr} {od12 an12 : Option Addr} {sl12 : Array (Option Value)} {oc12 kV12 dc12 pm12 cd12 ct12 : Value} {f13 : Addr} {od13 an13 : Option Addr} {sl13 : Array (Option Value)} {oc13 kV13 dc13 pm13 cd13 ct13 : Value} {f14 : Addr} {od14 an14 : Option Addr} {sl14 : Array (Option Value)} {oc14 kV14 dc14 pm14 cd14 ct14 : Value} {f15 : Addr} {od15 an15 : Option Addr} {sl15 : Array (Option Value)} {oc15 kV15 dc15 pm15 cd15 ct15 : Value} {f16 : Addr} {od16 an16 : Option Addr} {sl16 : Array (Option Value)} {oc16 kV16 dc16 pm16 cd16 ct16 : Value} {f17 : Addr} {od17 an17 : Option Addr} {sl17 : Array (Option Value)} {oc17 kV17 dc17 pm17 cd17 ct17 : Value} {t_FIGURES : Tok} {t_MOST : Tok} {t_MOST_FIGURES : Tok} {t_MOST_STEPS : Tok} {t_MOST_WAYS : Tok} {r_COUNTS : Addr} {n_COUNTS : Nat} {tk_COUNTS_0 tv_COUNTS_0 : Tok} {tk_COUNTS_1 tv_COUNTS_1 : Tok} {tk_COUNTS_2 tv_COUNTS_2 : Tok} {r_LETTERS : Addr} {n_LETTERS : Nat} {tk_LETTERS_0 tv_LETTERS_0 : Tok} {tk_LETTERS_1 tv_LETTERS_1 : Tok} {tk_LETTERS_2 tv_LETTERS_2 : Tok} {a_BadOutline : Addr}
    (Ca_Signs : PySem.W.nsIn K mainGlobals "Signs" = some (some (.ref C_Signs)))
    (Cg_Signs : PySem.W.plainGet K C_Signs Str.empty = true)
    (Cd_Signs : PySem.W.hasDictIn K C_Signs = true)
    (Co_Signs : PySem.W.plainOver K C_Signs = true)
    (Cs_Signs : PySem.W.findIn K (.ref C_Signs) "__setattr__" = some (some (.builtin "object.__setattr__")))
    (Cm_Signs : PySem.W.makesIn K C_Signs = true)
    (Ck_Signs : PySem.W.keepIn K (.ref C_Signs) = true)
    (na_Signs_at : PySem.W.findIn K (.ref C_Signs) "at" = some none)
    (na_Signs_text : PySem.W.findIn K (.ref C_Signs) "text" = some none)
    (a0 : PySem.W.nsIn K mainGlobals "_law_cell" = some (some (.ref f0)))
    (l0 : K.lookup f0 = some ⟨oc0, od0, .func (PySem.W.fnOf "_law_cell" "_law_cell" (defArgs st__law_cell) (defBody st__law_cell) (defScope st__law_cell) .none kV0 dc0 pm0 an0 cd0 ct0), sl0⟩)
    (c0 : PySem.W.codeIn K cd0 "_law_cell" = true)
    (k0 : PySem.W.keepIn K (.ref f0) = true)
    (a1 : PySem.W.nsIn K mainGlobals "_law_mix" = some (some (.ref f1)))
    (l1 : K.lookup f1 = some ⟨oc1, od1, .func (PySem.W.fnOf "_law_mix" "_law_mix" (defArgs st__law_mix) (defBody st__law_mix) (defScope st__law_mix) .none kV1 dc1 pm1 an1 cd1 ct1), sl1⟩)
    (c1 : PySem.W.codeIn K cd1 "_law_mix" = true)
    (k1 : PySem.W.keepIn K (.ref f1) = true)
    (a2 : PySem.W.nsIn K mainGlobals "_law_number" = some (some (.ref f2)))
    (l2 : K.lookup f2 = some ⟨oc2, od2, .func (PySem.W.fnOf "_law_number" "_law_number" (defArgs st__law_number) (defBody st__law_number) (defScope st__law_number) .none kV2 dc2 pm2 an2 cd2 ct2), sl2⟩)
    (c2 : PySem.W.codeIn K cd2 "_law_number" = true)
    (k2 : PySem.W.keepIn K (.ref f2) = true)
    (a3 : PySem.W.nsIn K mainGlobals "_law_step" = some (some (.ref f3)))
    (l3 : K.lookup f3 = some ⟨oc3, od3, .func (PySem.W.fnOf "_law_step" "_law_step" (defArgs st__law_step) (defBody st__law_step) (defScope st__law_step) .none kV3 dc3 pm3 an3 cd3 ct3), sl3⟩)
    (c3 : PySem.W.codeIn K cd3 "_law_step" = true)
    (k3 : PySem.W.keepIn K (.ref f3) = true)
    (a4 : PySem.W.nsIn K mainGlobals "_law_way" = some (some (.ref f4)))
    (l4 : K.lookup f4 = some ⟨oc4, od4, .func (PySem.W.fnOf "_law_way" "_law_way" (defArgs st__law_way) (defBody st__law_way) (defScope st__law_way) .none kV4 dc4 pm4 an4 cd4 ct4), sl4⟩)
    (c4 : PySem.W.codeIn K cd4 "_law_way" = true)
    (k4 : PySem.W.keepIn K (.ref f4) = true)
    (a5 : PySem.W.nsIn K mainGlobals "_law_outline" = some (some (.ref f5)))
    (l5 : K.lookup f5 = some ⟨oc5, od5, .func (PySem.W.fnOf "_law_outline" "_law_outline" (defArgs st__law_outline) (defBody st__law_outline) (defScope st__law_outline) .none kV5 dc5 pm5 an5 cd5 ct5), sl5⟩)
    (c5 : PySem.W.codeIn K cd5 "_law_outline" = true)
    (k5 : PySem.W.keepIn K (.ref f5) = true)
    (a6 : PySem.W.nsIn K mainGlobals "_law_step_text" = some (some (.ref f6)))
    (l6 : K.lookup f6 = some ⟨oc6, od6, .func (PySem.W.fnOf "_law_step_text" "_law_step_text" (defArgs st__law_step_text) (defBody st__law_step_text) (defScope st__law_step_text) .none kV6 dc6 pm6 an6 cd6 ct6), sl6⟩)
    (c6 : PySem.W.codeIn K cd6 "_law_step_text" = true)
    (k6 : PySem.W.keepIn K (.ref f6) = true)
    (a7 : PySem.W.nsIn K mainGlobals "_law_text" = some (some (.ref f7)))
    (l7 : K.lookup f7 = some ⟨oc7, od7, .func (PySem.W.fnOf "_law_text" "_law_text" (defArgs st__law_text) (defBody st__law_text) (defScope st__law_text) .none kV7 dc7 pm7 an7 cd7 ct7), sl7⟩)
    (c7 : PySem.W.codeIn K cd7 "_law_text" = true)
    (k7 : PySem.W.keepIn K (.ref f7) = true)
    (a8 : PySem.W.findIn K (.ref C_Signs) "__init__" = some (some (.ref f8)))
    (i8 : PySem.W.isFn K (.ref f8) = true)
    (l8 : K.lookup f8 = some ⟨oc8, od8, .func (PySem.W.fnOf "__init__" "Signs.__init__" (defArgs st_Signs___init__) (defBody st_Signs___init__) (defScope st_Signs___init__) .none kV8 dc8 pm8 an8 cd8 ct8), sl8⟩)
    (c8 : PySem.W.codeIn K cd8 "Signs.__init__" = true)
    (k8 : PySem.W.keepIn K (.ref f8) = true)
    (a9 : PySem.W.findIn K (.ref C_Signs) "sees" = some (some (.ref f9)))
    (i9 : PySem.W.isFn K (.ref f9) = true)
    (l9 : K.lookup f9 = some ⟨oc9, od9, .func (PySem.W.fnOf "sees" "Signs.sees" (defArgs st_Signs_sees) (defBody st_Signs_sees) (defScope st_Signs_sees) .none kV9 dc9 pm9 an9 cd9 ct9), sl9⟩)
    (c9 : PySem.W.codeIn K cd9 "Signs.sees" = true)
    (k9 : PySem.W.keepIn K (.ref f9) = true)
    (a10 : PySem.W.findIn K (.ref C_Signs) "number" = some (some (.ref f10)))
    (i10 : PySem.W.isFn K (.ref f10) = true)
    (l10 : K.lookup f10 = some ⟨oc10, od10, .func (PySem.W.fnOf "number" "Signs.number" (defArgs st_Signs_number) (defBody st_Signs_number) (defScope st_Signs_number) .none kV10 dc10 pm10 an10 cd10 ct10), sl10⟩)
    (c10 : PySem.W.codeIn K cd10 "Signs.number" = true)
    (k10 : PySem.W.keepIn K (.ref f10) = true)
    (a11 : PySem.W.nsIn K mainGlobals "read" = some (some (.ref f11)))
    (l11 : K.lookup f11 = some ⟨oc11, od11, .func (PySem.W.fnOf "read" "read" (defArgs st_read) (defBody st_read) (defScope st_read) .none kV11 dc11 pm11 an11 cd11 ct11), sl11⟩)
    (c11 : PySem.W.codeIn K cd11 "read" = true)
    (k11 : PySem.W.keepIn K (.ref f11) = true)
    (a12 : PySem.W.nsIn K mainGlobals "look_way" = some (some (.ref f12)))
    (l12 : K.lookup f12 = some ⟨oc12, od12, .func (PySem.W.fnOf "look_way" "look_way" (defArgs st_look_way) (defBody st_look_way) (defScope st_look_way) .none kV12 dc12 pm12 an12 cd12 ct12), sl12⟩)
    (c12 : PySem.W.codeIn K cd12 "look_way" = true)
    (k12 : PySem.W.keepIn K (.ref f12) = true)
    (a13 : PySem.W.nsIn K mainGlobals "look_outline" = some (some (.ref f13)))
    (l13 : K.lookup f13 = some ⟨oc13, od13, .func (PySem.W.fnOf "look_outline" "look_outline" (defArgs st_look_outline) (defBody st_look_outline) (defScope st_look_outline) .none kV13 dc13 pm13 an13 cd13 ct13), sl13⟩)
    (c13 : PySem.W.codeIn K cd13 "look_outline" = true)
    (k13 : PySem.W.keepIn K (.ref f13) = true)
    (a14 : PySem.W.nsIn K mainGlobals "step_text" = some (some (.ref f14)))
    (l14 : K.lookup f14 = some ⟨oc14, od14, .func (PySem.W.fnOf "step_text" "step_text" (defArgs st_step_text) (defBody st_step_text) (defScope st_step_text) .none kV14 dc14 pm14 an14 cd14 ct14), sl14⟩)
    (c14 : PySem.W.codeIn K cd14 "step_text" = true)
    (k14 : PySem.W.keepIn K (.ref f14) = true)
    (a15 : PySem.W.nsIn K mainGlobals "written" = some (some (.ref f15)))
    (l15 : K.lookup f15 = some ⟨oc15, od15, .func (PySem.W.fnOf "written" "written" (defArgs st_written) (defBody st_written) (defScope st_written) .none kV15 dc15 pm15 an15 cd15 ct15), sl15⟩)
    (c15 : PySem.W.codeIn K cd15 "written" = true)
    (k15 : PySem.W.keepIn K (.ref f15) = true)
    (a16 : PySem.W.nsIn K mainGlobals "_law_whole" = some (some (.ref f16)))
    (l16 : K.lookup f16 = some ⟨oc16, od16, .func (PySem.W.fnOf "_law_whole" "_law_whole" (defArgs st__law_whole) (defBody st__law_whole) (defScope st__law_whole) .none kV16 dc16 pm16 an16 cd16 ct16), sl16⟩)
    (c16 : PySem.W.codeIn K cd16 "_law_whole" = true)
    (k16 : PySem.W.keepIn K (.ref f16) = true)
    (a17 : PySem.W.nsIn K mainGlobals "law" = some (some (.ref f17)))
    (l17 : K.lookup f17 = some ⟨oc17, od17, .func (PySem.W.fnOf "law" "law" (defArgs st_law) (defBody st_law) (defScope st_law) .none kV17 dc17 pm17 an17 cd17 ct17), sl17⟩)
    (c17 : PySem.W.codeIn K cd17 "law" = true)
    (k17 : PySem.W.keepIn K (.ref f17) = true)
    (z_all : PySem.W.nsIn K mainGlobals "all" = some none)
    (z_bool : PySem.W.nsIn K mainGlobals "bool" = some none)
    (z_int : PySem.W.nsIn K mainGlobals "int" = some none)
    (z_isinstance : PySem.W.nsIn K mainGlobals "isinstance" = some none)
    (z_len : PySem.W.nsIn K mainGlobals "len" = some none)
    (z_list : PySem.W.nsIn K mainGlobals "list" = some none)
    (z_range : PySem.W.nsIn K mainGlobals "range" = some none)
    (z_str : PySem.W.nsIn K mainGlobals "str" = some none)
    (z_tuple : PySem.W.nsIn K mainGlobals "tuple" = some none)
    (g_FIGURES : PySem.W.nsIn K mainGlobals "FIGURES" = some (some (.str "0123456789" t_FIGURES)))
    (g_MOST : PySem.W.nsIn K mainGlobals "MOST" = some (some (.int 100000 t_MOST)))
    (g_MOST_FIGURES : PySem.W.nsIn K mainGlobals "MOST_FIGURES" = some (some (.int 6 t_MOST_FIGURES)))
    (g_MOST_STEPS : PySem.W.nsIn K mainGlobals "MOST_STEPS" = some (some (.int 200 t_MOST_STEPS)))
    (g_MOST_WAYS : PySem.W.nsIn K mainGlobals "MOST_WAYS" = some (some (.int 40 t_MOST_WAYS)))
    (g_COUNTS : PySem.W.nsIn K mainGlobals "COUNTS" = some (some (.ref r_COUNTS)))
    (gl_COUNTS : K.lookup r_COUNTS = some ⟨.type "dict", none, .dict #[⟨PyData.keyHash w.params "at", .str "at" tk_COUNTS_0, .int 3 tv_COUNTS_0⟩, ⟨PyData.keyHash w.params "to", .str "to" tk_COUNTS_1, .int 3 tv_COUNTS_1⟩, ⟨PyData.keyHash w.params "by", .str "by" tk_COUNTS_2, .int 5 tv_COUNTS_2⟩] n_COUNTS, #[]⟩)
    (gw_COUNTS : (r_COUNTS == sysModules) = false)
    (g_LETTERS : PySem.W.nsIn K mainGlobals "LETTERS" = some (some (.ref r_LETTERS)))
    (gl_LETTERS : K.lookup r_LETTERS = some ⟨.type "dict", none, .dict #[⟨PyData.keyHash w.params "M", .str "M" tk_LETTERS_0, .str "at" tv_LETTERS_0⟩, ⟨PyData.keyHash w.params "L", .str "L" tk_LETTERS_1, .str "to" tv_LETTERS_1⟩, ⟨PyData.keyHash w.params "Q", .str "Q" tk_LETTERS_2, .str "by" tv_LETTERS_2⟩] n_LETTERS, #[]⟩)
    (gw_LETTERS : (r_LETTERS == sysModules) = false)
    (xa_BadOutline : PySem.W.nsIn K mainGlobals "BadOutline" = some (some (.ref a_BadOutline)))
    (xi_BadOutline : PySem.W.excIn K a_BadOutline [.type "ValueError", .type "Exception", .type "BaseException", .type "object"] "ValueError.__new__" = true)
    (xk_BadOutline : PySem.W.keepIn K (.ref a_BadOutline) = true)
    (xb_BadOutline : PySem.W.subIn K (.ref a_BadOutline) (.type "BaseException") = some true)
    (xt_BadOutline : PySem.W.typeIn K (.ref a_BadOutline) = some (.type "type")) :
    ∃ fd : FuncData, (∀ (s : Shared) (v : Value), BindsTo s fd ⟨[v], []⟩ [("script", v)]) ∧ ∀ base : Heap, K.In base → base.Ns mainGlobals mg → FnOk P w K mg base (L2.CX P w) 7 fa fd ["script"] (spLaw K) := by
  have e := hfa.symm.trans (PySem.W.mg_of X G a17)
  cases e
  have F0 := fun_mk (st := st__law_cell) l0 c0 k0
  have F1 := fun_mk (st := st__law_mix) l1 c1 k1
  have F2 := fun_mk (st := st__law_number) l2 c2 k2
  have F3 := fun_mk (st := st__law_step) l3 c3 k3
  have F4 := fun_mk (st := st__law_way) l4 c4 k4
  have F5 := fun_mk (st := st__law_outline) l5 c5 k5
  have F6 := fun_mk (st := st__law_step_text) l6 c6 k6
  have F7 := fun_mk (st := st__law_text) l7 c7 k7
  have F8 := fun_mk (st := st_Signs___init__) l8 c8 k8
  have F9 := fun_mk (st := st_Signs_sees) l9 c9 k9
  have F10 := fun_mk (st := st_Signs_number) l10 c10 k10
  have F11 := fun_mk (st := st_read) l11 c11 k11
  have F12 := fun_mk (st := st_look_way) l12 c12 k12
  have F13 := fun_mk (st := st_look_outline) l13 c13 k13
  have F14 := fun_mk (st := st_step_text) l14 c14 k14
  have F15 := fun_mk (st := st_written) l15 c15 k15
  have F16 := fun_mk (st := st__law_whole) l16 c16 k16
  have F17 := fun_mk (st := st_law) l17 c17 k17
  have T_Signs : CF K mg "Signs" C_Signs := ⟨PySem.W.mg_of X G Ca_Signs, Cg_Signs, Cd_Signs, Co_Signs, Cs_Signs⟩
  have B : Bt mg := ⟨PySem.W.mg_none_of X G z_all, PySem.W.mg_none_of X G z_bool, PySem.W.mg_none_of X G z_int, PySem.W.mg_none_of X G z_isinstance, PySem.W.mg_none_of X G z_len, PySem.W.mg_none_of X G z_list, PySem.W.mg_none_of X G z_range, PySem.W.mg_none_of X G z_str, PySem.W.mg_none_of X G z_tuple⟩
  have h_FIGURES := PySem.W.mg_of X G g_FIGURES
  have h_MOST := PySem.W.mg_of X G g_MOST
  have h_MOST_FIGURES := PySem.W.mg_of X G g_MOST_FIGURES
  have h_MOST_STEPS := PySem.W.mg_of X G g_MOST_STEPS
  have h_MOST_WAYS := PySem.W.mg_of X G g_MOST_WAYS
  have hgd_COUNTS : GD K w mg "COUNTS" t_COUNTS := ⟨_, _, _, PySem.W.mg_of X G g_COUNTS, gl_COUNTS, ⟨⟨_, _, rfl, rfl⟩, ⟨⟨_, _, rfl, rfl⟩, ⟨⟨_, _, rfl, rfl⟩, trivial⟩⟩⟩, gw_COUNTS, .cons ⟨⟨_, rfl⟩, ⟨_, rfl⟩⟩ (.cons ⟨⟨_, rfl⟩, ⟨_, rfl⟩⟩ (.cons ⟨⟨_, rfl⟩, ⟨_, rfl⟩⟩ (.nil)))⟩
  have hgt_COUNTS : GDT K w mg "COUNTS" tt_COUNTS := ⟨_, _, _, PySem.W.mg_of X G g_COUNTS, gl_COUNTS, ⟨⟨_, _, rfl, rfl⟩, ⟨⟨_, _, rfl, rfl⟩, ⟨⟨_, _, rfl, rfl⟩, trivial⟩⟩⟩, gw_COUNTS, .cons ⟨⟨_, rfl⟩, lit_i⟩ (.cons ⟨⟨_, rfl⟩, lit_i⟩ (.cons ⟨⟨_, rfl⟩, lit_i⟩ (.nil)))⟩
  have hgt_LETTERS : GDT K w mg "LETTERS" tt_LETTERS := ⟨_, _, _, PySem.W.mg_of X G g_LETTERS, gl_LETTERS, ⟨⟨_, _, rfl, rfl⟩, ⟨⟨_, _, rfl, rfl⟩, ⟨⟨_, _, rfl, rfl⟩, trivial⟩⟩⟩, gw_LETTERS, .cons ⟨⟨_, rfl⟩, lit_s⟩ (.cons ⟨⟨_, rfl⟩, lit_s⟩ (.cons ⟨⟨_, rfl⟩, lit_s⟩ (.nil)))⟩
  have ha_BadOutline := PySem.W.mg_of X G xa_BadOutline
  have hx_BadOutline : ExF K mg "BadOutline" a_BadOutline := ⟨ha_BadOutline, xi_BadOutline, xk_BadOutline, xb_BadOutline, xt_BadOutline⟩
  refine ⟨PySem.W.fnOf "law" "law" (defArgs st_law) (defBody st_law) (defScope st_law) .none kV17 dc17 pm17 an17 cd17 ct17, fun s v => .of_eq rfl, fun base Y2 G2 => ?_⟩
  have C0 : Callee P w K mg base "_law_cell" 1 2 m__law_cell := ⟨f0, _, ["script", "k"], ok__law_cell F0 B, PySem.W.mg_of X G a0, k0, F0.binds fun _ _ _ _ _ _ us hl => match us, hl with | [_, _], _ => rfl, rfl⟩
  have C1 : Callee P w K mg base "_law_mix" 2 2 m__law_mix := ⟨f1, _, ["script", "k"], ok__law_mix F1 C0, PySem.W.mg_of X G a1, k1, F1.binds fun _ _ _ _ _ _ us hl => match us, hl with | [_, _], _ => rfl, rfl⟩
  have C2 : Callee P w K mg base "_law_number" 3 3 m__law_number := ⟨f2, _, ["script", "k", "most"], ok__law_number F2 C1, PySem.W.mg_of X G a2, k2, F2.binds fun _ _ _ _ _ _ us hl => match us, hl with | [_, _, _], _ => rfl, rfl⟩
  have C3 : Callee P w K mg base "_law_step" 4 3 m__law_step := ⟨f3, _, ["script", "k", "most"], ok__law_step F3 B C1 C2, PySem.W.mg_of X G a3, k3, F3.binds fun _ _ _ _ _ _ us hl => match us, hl with | [_, _, _], _ => rfl, rfl⟩
  have C4 : Callee P w K mg base "_law_way" 5 3 m__law_way := ⟨f4, _, ["script", "k", "most"], ok__law_way F4 B C2 C1 C3, PySem.W.mg_of X G a4, k4, F4.binds fun _ _ _ _ _ _ us hl => match us, hl with | [_, _, _], _ => rfl, rfl⟩
  have C5 : Callee P w K mg base "_law_outline" 6 3 m__law_outline := ⟨f5, _, ["script", "k", "most"], ok__law_outline F5 B C1 C4, PySem.W.mg_of X G a5, k5, F5.binds fun _ _ _ _ _ _ us hl => match us, hl with | [_, _, _], _ => rfl, rfl⟩
  have C6 : Callee P w K mg base "_law_step_text" 1 1 m__law_step_text := ⟨f6, _, ["step"], ok__law_step_text F6 B, PySem.W.mg_of X G a6, k6, F6.binds fun _ _ _ _ _ _ us hl => match us, hl with | [_], _ => rfl, rfl⟩
  have C7 : Callee P w K mg base "_law_text" 2 1 m__law_text := ⟨f7, _, ["outline"], ok__law_text F7 C6, PySem.W.mg_of X G a7, k7, F7.binds fun _ _ _ _ _ _ us hl => match us, hl with | [_], _ => rfl, rfl⟩
  have C8 : ICallee P w K mg base "Signs" 1 1 mi_Signs := ⟨C_Signs, f8, _, ["self", "text"], T_Signs, ⟨Cm_Signs, a8, i8, Ck_Signs⟩, ok_Signs___init__ F8 T_Signs na_Signs_text na_Signs_at, F8.binds fun _ _ _ _ _ _ us hl => match us, hl with | [_, _], _ => rfl, rfl⟩
  have C9 : MCallee P w K mg base "Signs" "sees" 1 1 m_Signs_sees := ⟨C_Signs, f9, _, ["self"], T_Signs, ⟨a9, i9, k9⟩, ok_Signs_sees F9 T_Signs na_Signs_text na_Signs_at, F9.binds fun _ _ _ _ _ _ us hl => match us, hl with | [_], _ => rfl, rfl⟩
  have C10 : OCallee P w K mg base "Signs" "number" 2 mo_Signs_number := ⟨C_Signs, f10, _, ["self"], T_Signs, ⟨a10, i10, k10⟩, ok_Signs_number F10 T_Signs na_Signs_at na_Signs_text B h_FIGURES h_MOST_FIGURES h_MOST C9, F10.binds fun _ _ _ _ _ _ us hl => match us, hl with | [_], _ => rfl⟩
  have C11 : Callee P w K mg base "read" 3 1 m_read := ⟨f11, _, ["text"], ok_read F11 T_Signs na_Signs_at B h_MOST_WAYS h_MOST_STEPS hgt_COUNTS hgt_LETTERS C9 C10 C8, PySem.W.mg_of X G a11, k11, F11.binds fun _ _ _ _ _ _ us hl => match us, hl with | [_], _ => rfl, rfl⟩
  have C12 : Callee P w K mg base "look_way" 1 1 m_look_way := ⟨f12, _, ["way"], ok_look_way F12 B h_MOST_STEPS h_MOST hx_BadOutline hgd_COUNTS, PySem.W.mg_of X G a12, k12, F12.binds fun _ _ _ _ _ _ us hl => match us, hl with | [_], _ => rfl, rfl⟩
  have C13 : Callee P w K mg base "look_outline" 2 1 m_look_outline := ⟨f13, _, ["outline"], ok_look_outline F13 B h_MOST_WAYS hx_BadOutline C12, PySem.W.mg_of X G a13, k13, F13.binds fun _ _ _ _ _ _ us hl => match us, hl with | [_], _ => rfl, rfl⟩
  have C14 : Callee P w K mg base "step_text" 1 1 m_step_text := ⟨f14, _, ["step"], ok_step_text F14 B hgt_LETTERS, PySem.W.mg_of X G a14, k14, F14.binds fun _ _ _ _ _ _ us hl => match us, hl with | [_], _ => rfl, rfl⟩
  have C15 : Callee P w K mg base "written" 3 1 m_written := ⟨f15, _, ["outline"], ok_written F15 C13 C14, PySem.W.mg_of X G a15, k15, F15.binds fun _ _ _ _ _ _ us hl => match us, hl with | [_], _ => rfl, rfl⟩
  have C16 : Callee P w K mg base "_law_whole" 1 1 m__law_whole := ⟨f16, _, ["found"], ok__law_whole F16 B, PySem.W.mg_of X G a16, k16, F16.binds fun _ _ _ _ _ _ us hl => match us, hl with | [_], _ => rfl, rfl⟩
  exact fnok_law (ok_law F17 B C1 C5 C7 C15 C11 C16) hpure
end
end W_law_k10_whole_read
open PySem PySem.W PyProof.Rows
set_option maxHeartbeats 0 in
theorem PySem.Challenge.cw_glyphyard_k10_whole_read_holds : PySem.Challenge.rw_glyphyard_k10_whole_read.Holds := by
  w_on; o_law; k_head; (case hw => w_witness2)
  k_fill
  refine L2.walk_of (l := PySem.Challenge.rw_glyphyard_k10_whole_read) (n := 63) (k := 7) (x := "script") (CX := fun w => L2.CX PySem.Challenge.rw_glyphyard_k10_whole_read.prog w) (sp := fun w => G.spLaw _) rfl (by decide) rfl ⟨rfl, by decide, by decide⟩ (fun w h Y => PySem.W.kIn_of Y) ?F (fun _ _ a ns hl _ hS => ⟨a, ns, rfl, hS, hl, fun _ => rfl⟩) (fun _ _ _ _ _ h => G.cx_no h)
  case F =>
    intro w mg fa h KX Gn hmg
    refine' W_law_k10_whole_read.all_mk G.pure_law KX Gn hmg ?Ca_Signs ?Cg_Signs ?Cd_Signs ?Co_Signs ?Cs_Signs ?Cm_Signs ?Ck_Signs ?na_Signs_at ?na_Signs_text ?a0 ?l0 ?c0 ?k0 ?a1 ?l1 ?c1 ?k1 ?a2 ?l2 ?c2 ?k2 ?a3 ?l3 ?c3 ?k3 ?a4 ?l4 ?c4 ?k4 ?a5 ?l5 ?c5 ?k5 ?a6 ?l6 ?c6 ?k6 ?a7 ?l7 ?c7 ?k7 ?a8 ?i8 ?l8 ?c8 ?k8 ?a9 ?i9 ?l9 ?c9 ?k9 ?a10 ?i10 ?l10 ?c10 ?k10 ?a11 ?l11 ?c11 ?k11 ?a12 ?l12 ?c12 ?k12 ?a13 ?l13 ?c13 ?k13 ?a14 ?l14 ?c14 ?k14 ?a15 ?l15 ?c15 ?k15 ?a16 ?l16 ?c16 ?k16 ?a17 ?l17 ?c17 ?k17 ?z_all ?z_bool ?z_int ?z_isinstance ?z_len ?z_list ?z_range ?z_str ?z_tuple ?g_FIGURES ?g_MOST ?g_MOST_FIGURES ?g_MOST_STEPS ?g_MOST_WAYS ?g_COUNTS ?gl_COUNTS ?gw_COUNTS ?g_LETTERS ?gl_LETTERS ?gw_LETTERS ?xa_BadOutline ?xi_BadOutline ?xk_BadOutline ?xb_BadOutline ?xt_BadOutline
    (case Ca_Signs => k_is); (case Cg_Signs => k_is); (case Cd_Signs => k_is); (case Co_Signs => k_is); (case Cs_Signs => k_is); (case Cm_Signs => k_is); (case Ck_Signs => k_is); (case na_Signs_at => k_is); (case na_Signs_text => k_is); (case a0 => k_is); (case l0 => k_is); (case c0 => k_is); (case k0 => k_is); (case a1 => k_is); (case l1 => k_is); (case c1 => k_is); (case k1 => k_is); (case a2 => k_is); (case l2 => k_is); (case c2 => k_is); (case k2 => k_is); (case a3 => k_is); (case l3 => k_is); (case c3 => k_is); (case k3 => k_is); (case a4 => k_is); (case l4 => k_is); (case c4 => k_is); (case k4 => k_is); (case a5 => k_is); (case l5 => k_is); (case c5 => k_is); (case k5 => k_is); (case a6 => k_is); (case l6 => k_is); (case c6 => k_is); (case k6 => k_is); (case a7 => k_is); (case l7 => k_is); (case c7 => k_is); (case k7 => k_is); (case a8 => k_is); (case i8 => k_is); (case l8 => k_is); (case c8 => k_is); (case k8 => k_is); (case a9 => k_is); (case i9 => k_is); (case l9 => k_is); (case c9 => k_is); (case k9 => k_is); (case a10 => k_is); (case i10 => k_is); (case l10 => k_is); (case c10 => k_is); (case k10 => k_is); (case a11 => k_is); (case l11 => k_is); (case c11 => k_is); (case k11 => k_is); (case a12 => k_is); (case l12 => k_is); (case c12 => k_is); (case k12 => k_is); (case a13 => k_is); (case l13 => k_is); (case c13 => k_is); (case k13 => k_is); (case a14 => k_is); (case l14 => k_is); (case c14 => k_is); (case k14 => k_is); (case a15 => k_is); (case l15 => k_is); (case c15 => k_is); (case k15 => k_is); (case a16 => k_is); (case l16 => k_is); (case c16 => k_is); (case k16 => k_is); (case a17 => k_is); (case l17 => k_is); (case c17 => k_is); (case k17 => k_is); (case z_all => k_is); (case z_bool => k_is); (case z_int => k_is); (case z_isinstance => k_is); (case z_len => k_is); (case z_list => k_is); (case z_range => k_is); (case z_str => k_is); (case z_tuple => k_is); (case g_FIGURES => k_is); (case g_MOST => k_is); (case g_MOST_FIGURES => k_is); (case g_MOST_STEPS => k_is); (case g_MOST_WAYS => k_is); (case g_COUNTS => k_is); (case gl_COUNTS => k_is); (case gw_COUNTS => kernel_rfl); (case g_LETTERS => k_is); (case gl_LETTERS => k_is); (case gw_LETTERS => kernel_rfl); (case xa_BadOutline => k_is); (case xi_BadOutline => kernel_rfl); (case xk_BadOutline => k_is); (case xb_BadOutline => k_is); (case xt_BadOutline => k_is)

